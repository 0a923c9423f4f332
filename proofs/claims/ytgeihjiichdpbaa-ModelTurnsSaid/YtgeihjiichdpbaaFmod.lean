/- package model: pairs, Apply on the map, Run. -/
import Derived.Test.YtgeihjiichdpbaaFsl3
namespace Go.Proofs.Ytgeihjiichdpbaa
open Go.RowKit
set_option linter.unusedVariables false
attribute [local irreducible] K.KW K.RW K.DW K.OW K.QR K.KC

theorem posT_le (ks : List Int) (k : Int) : posT ks k ≤ ks.length := (List.takeWhile_sublist _).length_le
theorem hasT_lt {ks : List Int} {k : Int} (h : hasT ks k = true) : posT ks k < ks.length := (of_decide_eq_true h).1
theorem findU2_ok (a : Option Addr) (cap : Nat) (xs : List Int) (k : Int) (w0 : World) (hm : xs.length ≤ 1000000000) (hr : rising xs) (hx : RU32 w0 a xs) :
    K.KC Try.prog 105 #[.slice a xs.length cap, .int .u32 k, .func (.func 70) [].toArray [].toArray] w0 (fun v w' => (hasT xs k = true ∧ v = .tuple #[.int .i64 (posT xs k), .bool true] ∧ K.Chg K.No w0 w') ∨ (hasT xs k = false ∧ v = .tuple #[.int .i64 (posT xs k), .bool false] ∧ K.Chg K.No w0 w')) :=
  (findU_ok a cap xs k w0 hm hr hx).mono fun v w h => by
    cases hb : hasT xs k
    · rw [hb] at h; exact .inr ⟨rfl, h⟩
    · rw [hb] at h; exact .inl ⟨rfl, h⟩
theorem findP2_ok (a : Option Addr) (cap : Nat) (xs : List PairM) (k : Int) (w0 : World) (hm : xs.length ≤ 1000000000) (hr : rising (keysP xs)) (hx : RPr w0 a xs) :
    K.KC Try.prog 106 #[.slice a xs.length cap, .int .u32 k, .func (.func 72) [].toArray [].toArray] w0 (fun v w' => (hasT (keysP xs) k = true ∧ v = .tuple #[.int .i64 (posT (keysP xs) k), .bool true] ∧ K.Chg K.No w0 w') ∨ (hasT (keysP xs) k = false ∧ v = .tuple #[.int .i64 (posT (keysP xs) k), .bool false] ∧ K.Chg K.No w0 w')) :=
  (findP_ok a cap xs k w0 hm hr hx).mono fun v w h => by
    cases hb : hasT (keysP xs) k
    · rw [hb] at h; exact .inr ⟨rfl, h⟩
    · rw [hb] at h; exact .inl ⟨rfl, h⟩

set_option maxHeartbeats 1000000 in
set_option maxRecDepth 100000 in
theorem result_ok (k x : Int) (w0 : World) :
    K.KC Try.prog 103 #[.int .i64 k, .int .u32 x] w0 (fun v w' => v = .agg #[.int .i64 k, .int .u32 x] ∧ K.Chg K.No w0 w') := by
  refine K.KC.mk (n := 8) Try.func103 rfl rfl [.int .i64 k, .int .u32 x] rfl rfl ?_
  refine K.KW.seq ?_
  -- region 0 model.go:46
  refine K.KW.region ?_
  refine K.RW.l rfl (K.OW.new (t := 52) rfl (fun r => .pointer (some ⟨r, 0, none⟩)) [.int .i64 0, .int .u32 0] (by kernel_rfl) ?_) 
  intro w_1 r_2 hr_3 e_4 hs_5 b_6
  have c_7 := e_4
  have z_8 := c_7.size
  have zz_9 := e_4.size
  refine K.RW.nil ?_
  refine K.thn_normal ?_
  refine K.KW.seq ?_
  -- region 1 model.go:46
  refine K.KW.region ?_
  refine K.RW.q rfl rfl (K.QR.k (v := .int .i64 k) (by kernel_rfl)) ?_
  refine K.RW.q rfl rfl (K.QR.k (v := .int .u32 x) (by kernel_rfl)) ?_
  refine K.RW.q rfl rfl (K.QR.bd [(0, .int .i64 k), (1, .int .u32 x)] [.int .i64 k, .int .u32 x] rfl rfl (by kernel_rfl)) ?_
  refine K.RW.l rfl (K.OW.st [.int .i64 k, .int .u32 x] [.int .i64 k, .int .u32 x] rfl rfl rfl (by kernel_rfl) b_6 rfl (K.one_cells (by rfl)) rfl rfl ?_) 
  intro w_10 e_11 hs_12 b_13
  have c_14 := c_7.own e_11 (by omega)
  have z_15 := c_14.size
  have zz_16 := e_11.size
  refine K.RW.nil ?_
  refine K.thn_normal ?_
  refine K.KW.ret ?_
  refine ⟨.inr rfl, rfl, (.agg #[.int .i64 k, .int .u32 x]), K.resAt (rs := [.cell 4 52]) [.agg #[.int .i64 k, .int .u32 x]] rfl ⟨⟨_, rfl, K.lvN [.int .i64 k, .int .u32 x] (by kernel_rfl) (by kernel_rfl) (K.cells (K.cl (b_13.cell rfl) (K.cl (b_13.cell rfl) K.cl0)))⟩, trivial⟩, ?_⟩
  exact ⟨rfl, c_14⟩

def pairsT (xs : List PairM) (kind key val : Int) : List PairM × Int × Int :=
  if hasT (keysP xs) key = true then (if kind = 8 then (delT xs (posT (keysP xs) key), 1, (xs.getD (posT (keysP xs) key) p0).val) else (xs, 3, (xs.getD (posT (keysP xs) key) p0).val))
  else if kind = 6 then (insT xs (posT (keysP xs) key) ⟨key, val⟩, 1, 0) else (xs, 4, 0)
theorem pairsT_tt {xs : List PairM} {kind key val : Int} (h : hasT (keysP xs) key = true) (h2 : kind = 8) : pairsT xs kind key val = (delT xs (posT (keysP xs) key), 1, (xs.getD (posT (keysP xs) key) p0).val) := by unfold pairsT; rw [if_pos h, if_pos h2]
theorem pairsT_tf {xs : List PairM} {kind key val : Int} (h : hasT (keysP xs) key = true) (h2 : ¬ kind = 8) : pairsT xs kind key val = (xs, 3, (xs.getD (posT (keysP xs) key) p0).val) := by unfold pairsT; rw [if_pos h, if_neg h2]
theorem pairsT_ft {xs : List PairM} {kind key val : Int} (h : hasT (keysP xs) key = false) (h2 : kind = 6) : pairsT xs kind key val = (insT xs (posT (keysP xs) key) ⟨key, val⟩, 1, 0) := by unfold pairsT; rw [if_neg (by rw [h]; simp), if_pos h2]
theorem pairsT_ff {xs : List PairM} {kind key val : Int} (h : hasT (keysP xs) key = false) (h2 : ¬ kind = 6) : pairsT xs kind key val = (xs, 4, 0) := by unfold pairsT; rw [if_neg (by rw [h]; simp), if_neg h2]

set_option maxHeartbeats 1000000 in
set_option maxRecDepth 100000 in
theorem pairs_ok (q s m : Option Addr) (nq cq ns cs cm : Nat) (xs ys : List PairM) (kind key val rk rv : Int) (w0 : World) (hm : xs.length ≤ 1000000) (hk : kind = 6 ∨ kind = 7 ∨ kind = 8) (hr : rising (keysP xs)) (hx : RPr w0 m xs) (hT : pairsT xs kind key val = (ys, rk, rv)) :
    K.KC Try.prog 68 #[.agg #[.slice q nq cq, .slice s ns cs, .slice m xs.length cm], .agg #[.int .i64 kind, .int .u32 key, .int .u32 val]] w0 (fun v w' => (∃ m' c', v = .tuple #[.agg #[.slice q nq cq, .slice s ns cs, .slice m' ys.length c'], .agg #[.int .i64 rk, .int .u32 rv]] ∧ K.Chg K.No w0 w' ∧ K.Own w' w0.heap.size 121 2 m' ys.length c' (ys.flatMap cPair)) ∨ (ys = xs ∧ v = .tuple #[.agg #[.slice q nq cq, .slice s ns cs, .slice m xs.length cm], .agg #[.int .i64 rk, .int .u32 rv]] ∧ K.Chg K.No w0 w')) := by
  refine K.KC.mk (n := 66) Try.func68 rfl rfl [.agg #[.slice q nq cq, .slice s ns cs, .slice m xs.length cm], .agg #[.int .i64 kind, .int .u32 key, .int .u32 val]] rfl rfl ?_
  refine K.KW.seq ?_
  -- region 0 model.go:79
  refine K.KW.region ?_
  refine K.RW.l rfl (K.OW.new (t := 42) rfl (fun r => .pointer (some ⟨r, 0, none⟩)) [.slice q nq cq, .slice s ns cs, .slice m xs.length cm] (by kernel_rfl) ?_) 
  intro w_1 r_2 hr_3 e_4 hs_5 b_6
  have c_7 := e_4
  have z_8 := c_7.size
  have zz_9 := e_4.size
  refine K.RW.l rfl (K.OW.new (t := 45) rfl (fun r => .pointer (some ⟨r, 0, none⟩)) [.int .i64 kind, .int .u32 key, .int .u32 val] (by kernel_rfl) ?_) 
  intro w_10 r_11 hr_12 e_13 hs_14 b_15
  have c_16 := c_7.no e_13
  have z_17 := c_16.size
  have zz_18 := e_13.size
  have f_19 := b_6.no e_13
  refine K.RW.l rfl (K.OW.new (t := 42) rfl (fun r => .pointer (some ⟨r, 0, none⟩)) [.slice none 0 0, .slice none 0 0, .slice none 0 0] (by kernel_rfl) ?_) 
  intro w_20 r_21 hr_22 e_23 hs_24 b_25
  have c_26 := c_16.no e_23
  have z_27 := c_26.size
  have zz_28 := e_23.size
  have f_29 := f_19.no e_23
  have f_30 := b_15.no e_23
  refine K.RW.l rfl (K.OW.new (t := 52) rfl (fun r => .pointer (some ⟨r, 0, none⟩)) [.int .i64 0, .int .u32 0] (by kernel_rfl) ?_) 
  intro w_31 r_32 hr_33 e_34 hs_35 b_36
  have c_37 := c_26.no e_34
  have z_38 := c_37.size
  have zz_39 := e_34.size
  have f_40 := f_29.no e_34
  have f_41 := f_30.no e_34
  have f_42 := b_25.no e_34
  refine K.RW.nil ?_
  refine K.thn_normal ?_
  refine K.KW.seq ?_
  -- region 1 model.go:80
  refine K.KW.region ?_
  refine K.RW.q rfl rfl (K.QR.k (v := .pointer (some ⟨r_2, 2, none⟩)) (by kernel_rfl)) ?_
  refine K.RW.q rfl rfl (K.QR.ld1 (v := .slice m xs.length cm) rfl rfl (by kernel_rfl) (f_40.cell rfl)) ?_
  refine K.RW.q rfl rfl (K.QR.k (v := .pointer (some ⟨r_11, 1, none⟩)) (by kernel_rfl)) ?_
  refine K.RW.q rfl rfl (K.QR.ld1 (v := .int .u32 key) rfl rfl (by kernel_rfl) (f_41.cell rfl)) ?_
  refine K.RW.l rfl (K.OW.call rfl [.slice m xs.length cm, .int .u32 key, .func (.func 72) [].toArray [].toArray] rfl rfl (by kernel_rfl) (findP2_ok _ _ xs key _ (by omega) (by assumption) (hx.no c_37)) ?_) 
  rintro v_43 w_44 (⟨hy_45, rfl, c_46⟩ | ⟨hn_47, rfl, c_48⟩)
  ·  -- found: True
    have c_49 := c_37.no c_46
    have z_50 := c_49.size
    have zz_51 := c_46.size
    have f_52 := f_40.no c_46
    have f_53 := f_41.no c_46
    have f_54 := f_42.no c_46
    have f_55 := b_36.no c_46
    have hp_56 := posT_le (keysP xs) key
    have hl_57 := hasT_lt hy_45
    have hk_58 := keysP_len xs
    refine K.RW.q rfl rfl (K.QR.k (v := .tuple #[.int .i64 (((posT (keysP xs) key) : Nat) : Int), .bool true]) (by kernel_rfl)) ?_
    refine K.RW.q rfl rfl (K.QR.k (v := .int .i64 (((posT (keysP xs) key) : Nat) : Int)) (by kernel_rfl)) ?_
    refine K.RW.q rfl rfl (K.QR.k (v := .bool true) (by kernel_rfl)) ?_
    refine K.RW.q rfl rfl (K.QR.k (v := .int .i64 (((posT (keysP xs) key) : Nat) : Int)) (by kernel_rfl)) ?_
    refine K.RW.q rfl rfl (K.QR.k (v := .bool true) (by kernel_rfl)) ?_
    refine K.RW.nil ?_
    refine K.thn_normal ?_
    refine K.KW.seq ?_
    refine K.KW.block ?_
    refine K.KW.seq ?_
    -- region 2 model.go:82
    refine K.KW.region ?_
    refine K.RW.q rfl rfl (K.QR.k (v := .bool true) (by kernel_rfl)) ?_
    refine K.RW.q rfl rfl (K.QR.k (v := .bool true) (by kernel_rfl)) ?_
    refine K.RW.q rfl (by kernel_rfl) (K.QR.k (v := .pointer (some ⟨r_11, 0, none⟩)) (by kernel_rfl)) ?_
    refine K.RW.q rfl (by kernel_rfl) (K.QR.ld1 (v := .int .i64 kind) rfl rfl (by kernel_rfl) (f_53.cell rfl)) ?_
    by_cases h_59 : (kind : Int) = (8 : Int)
    ·  -- yes
      refine K.RW.q rfl (by kernel_rfl) (K.QR.nice (v := .bool ((kind : Int) == (8 : Int))) (by kernel_rfl) (congrArg Value.bool (beq_iff_eq.2 h_59))) ?_
      refine K.RW.q rfl rfl (K.QR.k (v := .bool true) (by kernel_rfl)) ?_
      refine K.RW.q rfl rfl (K.QR.k (v := .bool true) (by kernel_rfl)) ?_
      refine K.RW.nil ?_
      refine K.thn_normal ?_
      refine K.KW.ifT rfl ?_
      refine K.KW.seq ?_
      -- region 3 model.go:83
      refine K.KW.region ?_
      refine K.RW.q rfl rfl (K.QR.k (v := .pointer (some ⟨r_2, 2, none⟩)) (by kernel_rfl)) ?_
      refine K.RW.q rfl rfl (K.QR.ld1 (v := .slice m xs.length cm) rfl rfl (by kernel_rfl) (f_52.cell rfl)) ?_
      refine K.RW.q rfl rfl (K.QR.k (v := .int .i64 (((posT (keysP xs) key) : Nat) : Int)) (by kernel_rfl)) ?_
      obtain ⟨b_60, of_61, rfl, _⟩ := hx.at_ (by omega)
      refine K.RW.q rfl rfl (K.QR.ix (of_61 + (posT (keysP xs) key) * 2) 2 rfl rfl rfl Try.underlying40 (by kernel_rfl) (by omega) (by first | (simp; done) | omega | (simp; omega))) ?_
      refine K.RW.q rfl rfl (K.QR.k (v := .pointer (some ⟨b_60, of_61 + (posT (keysP xs) key) * 2 + 1, none⟩)) (by kernel_rfl)) ?_
      refine K.RW.q rfl rfl (K.QR.ld1 (v := .int .u32 ((xs.getD (posT (keysP xs) key) p0).val)) rfl rfl (by kernel_rfl) (c_49.cell (hx.ld (posT (keysP xs) key) (by omega) 1 _ rfl) id)) ?_
      refine K.RW.q rfl rfl (K.QR.k (v := .int .u32 ((xs.getD (posT (keysP xs) key) p0).val)) (by kernel_rfl)) ?_
      refine K.RW.nil ?_
      refine K.thn_normal ?_
      refine K.KW.seq ?_
      -- region 4 model.go:84
      refine K.KW.region ?_
      refine K.RW.q rfl rfl (K.QR.k (v := .pointer (some ⟨r_2, 2, none⟩)) (by kernel_rfl)) ?_
      refine K.RW.q rfl rfl (K.QR.ld1 (v := .slice (some ⟨b_60, of_61, none⟩) xs.length cm) rfl rfl (by kernel_rfl) (f_52.cell rfl)) ?_
      refine K.RW.q rfl rfl (K.QR.k (v := .int .i64 (((posT (keysP xs) key) : Nat) : Int)) (by kernel_rfl)) ?_
      refine K.RW.l rfl (K.OW.call rfl [.slice (some ⟨b_60, of_61, none⟩) xs.length cm, .int .i64 (((posT (keysP xs) key) : Nat) : Int)] rfl rfl (by kernel_rfl) (woutP_ok _ _ (posT (keysP xs) key) xs _ (by omega) (by omega) (hx.no c_49)) ?_) 
      rintro _ w_66 ⟨r_62, cc_63, rfl, c_64, o_65⟩
      have c_67 := c_49.no c_64
      have z_68 := c_67.size
      have zz_69 := c_64.size
      have f_70 := f_52.no c_64
      have f_71 := f_53.no c_64
      have f_72 := f_54.no c_64
      have f_73 := f_55.no c_64
      have o_74 := K.Own.mono (base' := w0.heap.size) o_65 (by omega)
      refine K.RW.q rfl rfl (K.QR.k (v := .pointer (some ⟨r_2, 2, none⟩)) (by kernel_rfl)) ?_
      refine K.RW.l rfl (K.OW.st [.slice r_62 (xs.length - 1) cc_63] [.slice q nq cq, .slice s ns cs, .slice r_62 (xs.length - 1) cc_63] rfl rfl rfl (by kernel_rfl) f_70 rfl (K.one_cells (by rfl)) rfl rfl ?_) 
      intro w_75 e_76 hs_77 b_78
      have c_79 := c_67.own e_76 (by omega)
      have z_80 := c_79.size
      have zz_81 := e_76.size
      have f_82 := f_71.chg e_76 (f_71.ne f_70 (by decide))
      have f_83 := f_72.chg e_76 (by unfold K.Is; omega)
      have f_84 := f_73.chg e_76 (f_73.ne f_70 (by decide))
      have f_85 := o_74.chg e_76 (fun k hk hy => o_74.ne_ty f_70 (by decide) k hk hy)
      refine K.RW.nil ?_
      refine K.thn_normal ?_
      refine K.KW.seq ?_
      -- region 5 model.go:85
      refine K.KW.drawn (fun w => K.Chg K.No w0 w ∧ (w.cell? ⟨r_2, 0, none⟩ = some (.slice q nq cq)) ∧ (w.cell? ⟨r_2, 1, none⟩ = some (.slice s ns cs)) ∧ (w.cell? ⟨r_2, 2, none⟩ = some (.slice r_62 (xs.length - 1) cc_63))) (by kernel_rfl) ?_
      intro w_86 e_87 hs_88
      have c_90 := c_79.no e_87
      have z_91 := c_90.size
      have zz_92 := e_87.size
      have f_93 := b_78.no e_87
      have f_94 := f_82.no e_87
      have f_95 := f_83.no e_87
      have f_96 := f_84.no e_87
      have f_97 := f_85.no e_87
      have hS_89 : (fun w => K.Chg K.No w0 w ∧ (w.cell? ⟨r_2, 0, none⟩ = some (.slice q nq cq)) ∧ (w.cell? ⟨r_2, 1, none⟩ = some (.slice s ns cs)) ∧ (w.cell? ⟨r_2, 2, none⟩ = some (.slice r_62 (xs.length - 1) cc_63))) w_86 := ⟨c_90, ((f_93).cell rfl), ((f_93).cell rfl), ((f_93).cell rfl)⟩
      refine K.DW.q 0 (by kernel_rfl) rfl rfl (by kernel_rfl) rfl (fun w hS => K.QR.ldN [.slice q nq cq, .slice s ns cs, .slice r_62 (xs.length - 1) cc_63] rfl rfl (by kernel_rfl) (by kernel_rfl) (K.cells (K.cl (hS.2.1) (K.cl (hS.2.2.1) (K.cl (hS.2.2.2) K.cl0))))) hS_89 ?_
      refine K.DW.l 1 rfl (by kernel_rfl) rfl (K.OW.q rfl (K.QR.k (v := .int .u32 ((xs.getD (posT (keysP xs) key) p0).val)) (by kernel_rfl)) ?_)
      refine ⟨.inl hS_89, ?_⟩
      refine K.DW.l 2 rfl (by kernel_rfl) rfl (K.OW.call rfl [.int .i64 1, .int .u32 ((xs.getD (posT (keysP xs) key) p0).val)] rfl rfl (by kernel_rfl) (result_ok 1 ((xs.getD (posT (keysP xs) key) p0).val) _) ?_)
      rintro _ w_99 ⟨rfl, c_98⟩
      have c_100 := c_90.no c_98
      have z_101 := c_100.size
      have zz_102 := c_98.size
      have f_103 := f_93.no c_98
      have f_104 := f_94.no c_98
      have f_105 := f_95.no c_98
      have f_106 := f_96.no c_98
      have f_107 := f_97.no c_98
      have hS_108 : (fun w => K.Chg K.No w0 w ∧ (w.cell? ⟨r_2, 0, none⟩ = some (.slice q nq cq)) ∧ (w.cell? ⟨r_2, 1, none⟩ = some (.slice s ns cs)) ∧ (w.cell? ⟨r_2, 2, none⟩ = some (.slice r_62 (xs.length - 1) cc_63))) w_99 := ⟨c_100, ((f_103).cell rfl), ((f_103).cell rfl), ((f_103).cell rfl)⟩
      refine ⟨.inl hS_108, ?_⟩
      refine K.DW.l 3 rfl (by kernel_rfl) rfl (K.OW.st [.slice q nq cq, .slice s ns cs, .slice r_62 (xs.length - 1) cc_63] [.slice q nq cq, .slice s ns cs, .slice r_62 (xs.length - 1) cc_63] rfl rfl rfl (by kernel_rfl) f_105 rfl (K.one_cells (by rfl)) rfl rfl ?_)
      intro w_109 e_110 hs_111 b_112
      have c_113 := c_100.own e_110 (by omega)
      have z_114 := c_113.size
      have zz_115 := e_110.size
      have f_116 := f_103.chg e_110 (by unfold K.Is; omega)
      have f_117 := f_104.chg e_110 (f_104.ne f_105 (by decide))
      have f_118 := f_106.chg e_110 (f_106.ne f_105 (by decide))
      have f_119 := f_107.chg e_110 (fun k hk hy => f_107.ne_ty f_105 (by decide) k hk hy)
      have hS_120 : (fun w => K.Chg K.No w0 w ∧ (w.cell? ⟨r_2, 0, none⟩ = some (.slice q nq cq)) ∧ (w.cell? ⟨r_2, 1, none⟩ = some (.slice s ns cs)) ∧ (w.cell? ⟨r_2, 2, none⟩ = some (.slice r_62 (xs.length - 1) cc_63))) w_109 := ⟨c_113, ((f_116).cell rfl), ((f_116).cell rfl), ((f_116).cell rfl)⟩
      refine ⟨.inl hS_120, ?_⟩
      refine K.DW.l 4 rfl (by kernel_rfl) rfl (K.OW.st [.int .i64 1, .int .u32 ((xs.getD (posT (keysP xs) key) p0).val)] [.int .i64 1, .int .u32 ((xs.getD (posT (keysP xs) key) p0).val)] rfl rfl rfl (by kernel_rfl) f_118 rfl (K.one_cells (by rfl)) rfl rfl ?_)
      intro w_121 e_122 hs_123 b_124
      have c_125 := c_113.own e_122 (by omega)
      have z_126 := c_125.size
      have zz_127 := e_122.size
      have f_128 := f_116.chg e_122 (f_116.ne f_118 (by decide))
      have f_129 := f_117.chg e_122 (f_117.ne f_118 (by decide))
      have f_130 := b_112.chg e_122 (b_112.ne f_118 (by decide))
      have f_131 := f_119.chg e_122 (fun k hk hy => f_119.ne_ty f_118 (by decide) k hk hy)
      refine ⟨.inr (by kernel_rfl), ?_⟩
      refine K.DW.done (by kernel_rfl) ?_
      refine K.thn_normal ?_
      refine K.KW.ret ?_
      refine K.blk_ret ?_
      refine K.thn_ret ?_
      refine ⟨.inr rfl, rfl, (.tuple #[.agg #[.slice q nq cq, .slice s ns cs, .slice r_62 (xs.length - 1) cc_63], .agg #[.int .i64 1, .int .u32 ((xs.getD (posT (keysP xs) key) p0).val)]]), K.resAt (rs := [.cell 4 42, .cell 5 52]) [.agg #[.slice q nq cq, .slice s ns cs, .slice r_62 (xs.length - 1) cc_63], .agg #[.int .i64 1, .int .u32 ((xs.getD (posT (keysP xs) key) p0).val)]] rfl ⟨⟨_, rfl, K.lvN [.slice q nq cq, .slice s ns cs, .slice r_62 (xs.length - 1) cc_63] (by kernel_rfl) (by kernel_rfl) (K.cells (K.cl (f_130.cell rfl) (K.cl (f_130.cell rfl) (K.cl (f_130.cell rfl) K.cl0))))⟩, ⟨_, rfl, K.lvN [.int .i64 1, .int .u32 ((xs.getD (posT (keysP xs) key) p0).val)] (by kernel_rfl) (by kernel_rfl) (K.cells (K.cl (b_124.cell rfl) (K.cl (b_124.cell rfl) K.cl0)))⟩, trivial⟩, ?_⟩
      rw [pairsT_tt (by assumption) (by assumption : (kind : Int) = (8 : Int))] at hT
      simp only [Prod.mk.injEq] at hT
      obtain ⟨rfl, rfl, rfl⟩ := hT
      have hln := delT_len (xs := xs) (i := posT (keysP xs) key) (by omega)
      rw [hln]
      exact .inl ⟨_, _, rfl, c_125, f_131⟩
    ·  -- no
      refine K.RW.q rfl (by kernel_rfl) (K.QR.nice (v := .bool ((kind : Int) == (8 : Int))) (by kernel_rfl) (congrArg Value.bool (beq_eq_false_iff_ne.2 h_59))) ?_
      refine K.RW.q rfl rfl (K.QR.k (v := .bool false) (by kernel_rfl)) ?_
      refine K.RW.q rfl rfl (K.QR.k (v := .bool false) (by kernel_rfl)) ?_
      refine K.RW.nil ?_
      refine K.thn_normal ?_
      refine K.KW.ifF rfl ?_
      refine K.KW.seq ?_
      -- region 6 model.go:86
      refine K.KW.region ?_
      refine K.RW.q rfl rfl (K.QR.k (v := .bool true) (by kernel_rfl)) ?_
      refine K.RW.q rfl rfl (K.QR.k (v := .bool true) (by kernel_rfl)) ?_
      refine K.RW.nil ?_
      refine K.thn_normal ?_
      refine K.KW.ifT rfl ?_
      refine K.KW.seq ?_
      -- region 7 model.go:87
      obtain ⟨b_133, of_134, rfl, _⟩ := hx.at_ (by omega)
      refine K.KW.drawn (fun w => K.Chg K.No w0 w ∧ (w.cell? ⟨r_2, 0, none⟩ = some (.slice q nq cq)) ∧ (w.cell? ⟨r_2, 1, none⟩ = some (.slice s ns cs)) ∧ (w.cell? ⟨r_2, 2, none⟩ = some (.slice (some ⟨b_133, of_134, none⟩) xs.length cm))) (by kernel_rfl) ?_
      intro w_135 e_136 hs_137
      have c_139 := c_49.no e_136
      have z_140 := c_139.size
      have zz_141 := e_136.size
      have f_142 := f_52.no e_136
      have f_143 := f_53.no e_136
      have f_144 := f_54.no e_136
      have f_145 := f_55.no e_136
      have hS_138 : (fun w => K.Chg K.No w0 w ∧ (w.cell? ⟨r_2, 0, none⟩ = some (.slice q nq cq)) ∧ (w.cell? ⟨r_2, 1, none⟩ = some (.slice s ns cs)) ∧ (w.cell? ⟨r_2, 2, none⟩ = some (.slice (some ⟨b_133, of_134, none⟩) xs.length cm))) w_135 := ⟨c_139, ((f_142).cell rfl), ((f_142).cell rfl), ((f_142).cell rfl)⟩
      refine K.DW.q 0 (by kernel_rfl) rfl rfl (by kernel_rfl) rfl (fun w hS => K.QR.ldN [.slice q nq cq, .slice s ns cs, .slice (some ⟨b_133, of_134, none⟩) xs.length cm] rfl rfl (by kernel_rfl) (by kernel_rfl) (K.cells (K.cl (hS.2.1) (K.cl (hS.2.2.1) (K.cl (hS.2.2.2) K.cl0))))) hS_138 ?_
      refine K.DW.q 1 (by kernel_rfl) rfl rfl (by kernel_rfl) rfl (fun w hS => K.QR.k (v := .pointer (some ⟨r_2, 2, none⟩)) (by kernel_rfl)) hS_138 ?_
      refine K.DW.q 2 (by kernel_rfl) rfl rfl (by kernel_rfl) rfl (fun w hS => K.QR.ld1 (v := .slice (some ⟨b_133, of_134, none⟩) xs.length cm) rfl rfl (by kernel_rfl) (hS.2.2.2)) hS_138 ?_
      refine K.DW.l 3 rfl (by kernel_rfl) rfl (K.OW.q rfl (K.QR.k (v := .int .i64 (((posT (keysP xs) key) : Nat) : Int)) (by kernel_rfl)) ?_)
      refine ⟨.inl hS_138, ?_⟩
      refine K.DW.l 4 rfl (by kernel_rfl) rfl (K.OW.q rfl (K.QR.ix (of_134 + (posT (keysP xs) key) * 2) 2 rfl rfl rfl Try.underlying40 (by kernel_rfl) (by omega) (by first | (simp; done) | omega | (simp; omega))) ?_)
      refine ⟨.inl hS_138, ?_⟩
      refine K.DW.l 5 rfl (by kernel_rfl) rfl (K.OW.q rfl (K.QR.k (v := .pointer (some ⟨b_133, of_134 + (posT (keysP xs) key) * 2 + 1, none⟩)) (by kernel_rfl)) ?_)
      refine ⟨.inl hS_138, ?_⟩
      refine K.DW.l 6 rfl (by kernel_rfl) rfl (K.OW.q rfl (K.QR.ld1 (v := .int .u32 ((xs.getD (posT (keysP xs) key) p0).val)) rfl rfl (by kernel_rfl) (c_139.cell (hx.ld (posT (keysP xs) key) (by omega) 1 _ rfl) id)) ?_)
      refine ⟨.inl hS_138, ?_⟩
      refine K.DW.l 7 rfl (by kernel_rfl) rfl (K.OW.call rfl [.int .i64 3, .int .u32 ((xs.getD (posT (keysP xs) key) p0).val)] rfl rfl (by kernel_rfl) (result_ok 3 ((xs.getD (posT (keysP xs) key) p0).val) _) ?_)
      rintro _ w_147 ⟨rfl, c_146⟩
      have c_148 := c_139.no c_146
      have z_149 := c_148.size
      have zz_150 := c_146.size
      have f_151 := f_142.no c_146
      have f_152 := f_143.no c_146
      have f_153 := f_144.no c_146
      have f_154 := f_145.no c_146
      have hS_155 : (fun w => K.Chg K.No w0 w ∧ (w.cell? ⟨r_2, 0, none⟩ = some (.slice q nq cq)) ∧ (w.cell? ⟨r_2, 1, none⟩ = some (.slice s ns cs)) ∧ (w.cell? ⟨r_2, 2, none⟩ = some (.slice (some ⟨b_133, of_134, none⟩) xs.length cm))) w_147 := ⟨c_148, ((f_151).cell rfl), ((f_151).cell rfl), ((f_151).cell rfl)⟩
      refine ⟨.inl hS_155, ?_⟩
      refine K.DW.l 8 rfl (by kernel_rfl) rfl (K.OW.st [.slice q nq cq, .slice s ns cs, .slice (some ⟨b_133, of_134, none⟩) xs.length cm] [.slice q nq cq, .slice s ns cs, .slice (some ⟨b_133, of_134, none⟩) xs.length cm] rfl rfl rfl (by kernel_rfl) f_153 rfl (K.one_cells (by rfl)) rfl rfl ?_)
      intro w_156 e_157 hs_158 b_159
      have c_160 := c_148.own e_157 (by omega)
      have z_161 := c_160.size
      have zz_162 := e_157.size
      have f_163 := f_151.chg e_157 (by unfold K.Is; omega)
      have f_164 := f_152.chg e_157 (f_152.ne f_153 (by decide))
      have f_165 := f_154.chg e_157 (f_154.ne f_153 (by decide))
      have hS_166 : (fun w => K.Chg K.No w0 w ∧ (w.cell? ⟨r_2, 0, none⟩ = some (.slice q nq cq)) ∧ (w.cell? ⟨r_2, 1, none⟩ = some (.slice s ns cs)) ∧ (w.cell? ⟨r_2, 2, none⟩ = some (.slice (some ⟨b_133, of_134, none⟩) xs.length cm))) w_156 := ⟨c_160, ((f_163).cell rfl), ((f_163).cell rfl), ((f_163).cell rfl)⟩
      refine ⟨.inl hS_166, ?_⟩
      refine K.DW.l 9 rfl (by kernel_rfl) rfl (K.OW.st [.int .i64 3, .int .u32 ((xs.getD (posT (keysP xs) key) p0).val)] [.int .i64 3, .int .u32 ((xs.getD (posT (keysP xs) key) p0).val)] rfl rfl rfl (by kernel_rfl) f_165 rfl (K.one_cells (by rfl)) rfl rfl ?_)
      intro w_167 e_168 hs_169 b_170
      have c_171 := c_160.own e_168 (by omega)
      have z_172 := c_171.size
      have zz_173 := e_168.size
      have f_174 := f_163.chg e_168 (f_163.ne f_165 (by decide))
      have f_175 := f_164.chg e_168 (f_164.ne f_165 (by decide))
      have f_176 := b_159.chg e_168 (b_159.ne f_165 (by decide))
      refine ⟨.inr (by kernel_rfl), ?_⟩
      refine K.DW.done (by kernel_rfl) ?_
      refine K.thn_normal ?_
      refine K.KW.ret ?_
      refine K.blk_ret ?_
      refine K.thn_ret ?_
      refine ⟨.inr rfl, rfl, (.tuple #[.agg #[.slice q nq cq, .slice s ns cs, .slice (some ⟨b_133, of_134, none⟩) xs.length cm], .agg #[.int .i64 3, .int .u32 ((xs.getD (posT (keysP xs) key) p0).val)]]), K.resAt (rs := [.cell 4 42, .cell 5 52]) [.agg #[.slice q nq cq, .slice s ns cs, .slice (some ⟨b_133, of_134, none⟩) xs.length cm], .agg #[.int .i64 3, .int .u32 ((xs.getD (posT (keysP xs) key) p0).val)]] rfl ⟨⟨_, rfl, K.lvN [.slice q nq cq, .slice s ns cs, .slice (some ⟨b_133, of_134, none⟩) xs.length cm] (by kernel_rfl) (by kernel_rfl) (K.cells (K.cl (f_176.cell rfl) (K.cl (f_176.cell rfl) (K.cl (f_176.cell rfl) K.cl0))))⟩, ⟨_, rfl, K.lvN [.int .i64 3, .int .u32 ((xs.getD (posT (keysP xs) key) p0).val)] (by kernel_rfl) (by kernel_rfl) (K.cells (K.cl (b_170.cell rfl) (K.cl (b_170.cell rfl) K.cl0)))⟩, trivial⟩, ?_⟩
      first | (rw [pairsT_tf (by assumption) (by assumption)] at hT; simp only [Prod.mk.injEq] at hT; obtain ⟨rfl, rfl, rfl⟩ := hT; exact .inr ⟨rfl, rfl, c_171⟩) | (rw [pairsT_ff (by assumption) (by assumption)] at hT; simp only [Prod.mk.injEq] at hT; obtain ⟨rfl, rfl, rfl⟩ := hT; exact .inr ⟨rfl, rfl, c_171⟩)
  ·  -- found: False
    have c_178 := c_37.no c_48
    have z_179 := c_178.size
    have zz_180 := c_48.size
    have f_181 := f_40.no c_48
    have f_182 := f_41.no c_48
    have f_183 := f_42.no c_48
    have f_184 := b_36.no c_48
    have hp_185 := posT_le (keysP xs) key
    have hk_186 := keysP_len xs
    refine K.RW.q rfl rfl (K.QR.k (v := .tuple #[.int .i64 (((posT (keysP xs) key) : Nat) : Int), .bool false]) (by kernel_rfl)) ?_
    refine K.RW.q rfl rfl (K.QR.k (v := .int .i64 (((posT (keysP xs) key) : Nat) : Int)) (by kernel_rfl)) ?_
    refine K.RW.q rfl rfl (K.QR.k (v := .bool false) (by kernel_rfl)) ?_
    refine K.RW.q rfl rfl (K.QR.k (v := .int .i64 (((posT (keysP xs) key) : Nat) : Int)) (by kernel_rfl)) ?_
    refine K.RW.q rfl rfl (K.QR.k (v := .bool false) (by kernel_rfl)) ?_
    refine K.RW.nil ?_
    refine K.thn_normal ?_
    refine K.KW.seq ?_
    refine K.KW.block ?_
    refine K.KW.seq ?_
    -- region 2 model.go:82
    refine K.KW.region ?_
    refine K.RW.q rfl rfl (K.QR.k (v := .bool false) (by kernel_rfl)) ?_
    refine K.RW.q rfl rfl (K.QR.k (v := .bool false) (by kernel_rfl)) ?_
    refine K.RW.skip rfl (by kernel_rfl) ?_
    refine K.RW.skip rfl (by kernel_rfl) ?_
    refine K.RW.skip rfl (by kernel_rfl) ?_
    refine K.RW.q rfl rfl (K.QR.k (v := .bool false) (by kernel_rfl)) ?_
    refine K.RW.q rfl rfl (K.QR.k (v := .bool false) (by kernel_rfl)) ?_
    refine K.RW.nil ?_
    refine K.thn_normal ?_
    refine K.KW.ifF rfl ?_
    refine K.KW.seq ?_
    -- region 6 model.go:86
    refine K.KW.region ?_
    refine K.RW.q rfl rfl (K.QR.k (v := .bool false) (by kernel_rfl)) ?_
    refine K.RW.q rfl rfl (K.QR.k (v := .bool false) (by kernel_rfl)) ?_
    refine K.RW.nil ?_
    refine K.thn_normal ?_
    refine K.KW.ifF rfl ?_
    refine K.KW.seq ?_
    -- region 8 model.go:88
    refine K.KW.region ?_
    refine K.RW.q rfl rfl (K.QR.k (v := .pointer (some ⟨r_11, 0, none⟩)) (by kernel_rfl)) ?_
    refine K.RW.q rfl rfl (K.QR.ld1 (v := .int .i64 kind) rfl rfl (by kernel_rfl) (f_182.cell rfl)) ?_
    by_cases h_187 : (kind : Int) = (6 : Int)
    ·  -- yes
      refine K.RW.q rfl rfl (K.QR.nice (v := .bool ((kind : Int) != (6 : Int))) (by kernel_rfl) (congrArg Value.bool (bne_eq_false_iff_eq.2 h_187))) ?_
      refine K.RW.q rfl rfl (K.QR.k (v := .bool false) (by kernel_rfl)) ?_
      refine K.RW.nil ?_
      refine K.thn_normal ?_
      refine K.KW.ifF rfl ?_
      refine K.KW.skip ?_
      refine K.blk_normal ?_
      refine K.thn_normal ?_
      refine K.KW.seq ?_
      -- region 10 model.go:91
      refine K.KW.region ?_
      refine K.RW.q rfl rfl (K.QR.k (v := .pointer (some ⟨r_2, 2, none⟩)) (by kernel_rfl)) ?_
      refine K.RW.q rfl rfl (K.QR.ld1 (v := .slice m xs.length cm) rfl rfl (by kernel_rfl) (f_181.cell rfl)) ?_
      refine K.RW.q rfl rfl (K.QR.k (v := .int .i64 (((posT (keysP xs) key) : Nat) : Int)) (by kernel_rfl)) ?_
      refine K.RW.q rfl rfl (K.QR.k (v := .pointer (some ⟨r_11, 1, none⟩)) (by kernel_rfl)) ?_
      refine K.RW.q rfl rfl (K.QR.ld1 (v := .int .u32 key) rfl rfl (by kernel_rfl) (f_182.cell rfl)) ?_
      refine K.RW.q rfl rfl (K.QR.k (v := .pointer (some ⟨r_11, 2, none⟩)) (by kernel_rfl)) ?_
      refine K.RW.q rfl rfl (K.QR.ld1 (v := .int .u32 val) rfl rfl (by kernel_rfl) (f_182.cell rfl)) ?_
      refine K.RW.q rfl rfl (K.QR.bd [(0, .int .u32 key), (1, .int .u32 val)] [.int .u32 key, .int .u32 val] rfl rfl (by kernel_rfl)) ?_
      refine K.RW.l rfl (K.OW.call rfl [.slice m xs.length cm, .int .i64 (((posT (keysP xs) key) : Nat) : Int), .agg #[.int .u32 key, .int .u32 val]] rfl rfl (by kernel_rfl) (withP_ok _ _ (posT (keysP xs) key) xs ⟨key, val⟩ _ (by omega) (by omega) (hx.no c_178)) ?_) 
      rintro _ w_192 ⟨r_188, cc_189, rfl, c_190, o_191⟩
      have c_193 := c_178.no c_190
      have z_194 := c_193.size
      have zz_195 := c_190.size
      have f_196 := f_181.no c_190
      have f_197 := f_182.no c_190
      have f_198 := f_183.no c_190
      have f_199 := f_184.no c_190
      have o_200 := K.Own.mono (base' := w0.heap.size) o_191 (by omega)
      refine K.RW.q rfl rfl (K.QR.k (v := .pointer (some ⟨r_2, 2, none⟩)) (by kernel_rfl)) ?_
      refine K.RW.l rfl (K.OW.st [.slice r_188 (xs.length + 1) cc_189] [.slice q nq cq, .slice s ns cs, .slice r_188 (xs.length + 1) cc_189] rfl rfl rfl (by kernel_rfl) f_196 rfl (K.one_cells (by rfl)) rfl rfl ?_) 
      intro w_201 e_202 hs_203 b_204
      have c_205 := c_193.own e_202 (by omega)
      have z_206 := c_205.size
      have zz_207 := e_202.size
      have f_208 := f_197.chg e_202 (f_197.ne f_196 (by decide))
      have f_209 := f_198.chg e_202 (by unfold K.Is; omega)
      have f_210 := f_199.chg e_202 (f_199.ne f_196 (by decide))
      have f_211 := o_200.chg e_202 (fun k hk hy => o_200.ne_ty f_196 (by decide) k hk hy)
      refine K.RW.nil ?_
      refine K.thn_normal ?_
      refine K.KW.seq ?_
      -- region 11 model.go:92
      refine K.KW.drawn (fun w => K.Chg K.No w0 w ∧ (w.cell? ⟨r_2, 0, none⟩ = some (.slice q nq cq)) ∧ (w.cell? ⟨r_2, 1, none⟩ = some (.slice s ns cs)) ∧ (w.cell? ⟨r_2, 2, none⟩ = some (.slice r_188 (xs.length + 1) cc_189))) (by kernel_rfl) ?_
      intro w_212 e_213 hs_214
      have c_216 := c_205.no e_213
      have z_217 := c_216.size
      have zz_218 := e_213.size
      have f_219 := b_204.no e_213
      have f_220 := f_208.no e_213
      have f_221 := f_209.no e_213
      have f_222 := f_210.no e_213
      have f_223 := f_211.no e_213
      have hS_215 : (fun w => K.Chg K.No w0 w ∧ (w.cell? ⟨r_2, 0, none⟩ = some (.slice q nq cq)) ∧ (w.cell? ⟨r_2, 1, none⟩ = some (.slice s ns cs)) ∧ (w.cell? ⟨r_2, 2, none⟩ = some (.slice r_188 (xs.length + 1) cc_189))) w_212 := ⟨c_216, ((f_219).cell rfl), ((f_219).cell rfl), ((f_219).cell rfl)⟩
      refine K.DW.q 0 (by kernel_rfl) rfl rfl (by kernel_rfl) rfl (fun w hS => K.QR.ldN [.slice q nq cq, .slice s ns cs, .slice r_188 (xs.length + 1) cc_189] rfl rfl (by kernel_rfl) (by kernel_rfl) (K.cells (K.cl (hS.2.1) (K.cl (hS.2.2.1) (K.cl (hS.2.2.2) K.cl0))))) hS_215 ?_
      refine K.DW.l 1 rfl (by kernel_rfl) rfl (K.OW.call rfl [.int .i64 1, .int .u32 0] rfl rfl (by kernel_rfl) (result_ok 1 0 _) ?_)
      rintro _ w_225 ⟨rfl, c_224⟩
      have c_226 := c_216.no c_224
      have z_227 := c_226.size
      have zz_228 := c_224.size
      have f_229 := f_219.no c_224
      have f_230 := f_220.no c_224
      have f_231 := f_221.no c_224
      have f_232 := f_222.no c_224
      have f_233 := f_223.no c_224
      have hS_234 : (fun w => K.Chg K.No w0 w ∧ (w.cell? ⟨r_2, 0, none⟩ = some (.slice q nq cq)) ∧ (w.cell? ⟨r_2, 1, none⟩ = some (.slice s ns cs)) ∧ (w.cell? ⟨r_2, 2, none⟩ = some (.slice r_188 (xs.length + 1) cc_189))) w_225 := ⟨c_226, ((f_229).cell rfl), ((f_229).cell rfl), ((f_229).cell rfl)⟩
      refine ⟨.inl hS_234, ?_⟩
      refine K.DW.l 2 rfl (by kernel_rfl) rfl (K.OW.st [.slice q nq cq, .slice s ns cs, .slice r_188 (xs.length + 1) cc_189] [.slice q nq cq, .slice s ns cs, .slice r_188 (xs.length + 1) cc_189] rfl rfl rfl (by kernel_rfl) f_231 rfl (K.one_cells (by rfl)) rfl rfl ?_)
      intro w_235 e_236 hs_237 b_238
      have c_239 := c_226.own e_236 (by omega)
      have z_240 := c_239.size
      have zz_241 := e_236.size
      have f_242 := f_229.chg e_236 (by unfold K.Is; omega)
      have f_243 := f_230.chg e_236 (f_230.ne f_231 (by decide))
      have f_244 := f_232.chg e_236 (f_232.ne f_231 (by decide))
      have f_245 := f_233.chg e_236 (fun k hk hy => f_233.ne_ty f_231 (by decide) k hk hy)
      have hS_246 : (fun w => K.Chg K.No w0 w ∧ (w.cell? ⟨r_2, 0, none⟩ = some (.slice q nq cq)) ∧ (w.cell? ⟨r_2, 1, none⟩ = some (.slice s ns cs)) ∧ (w.cell? ⟨r_2, 2, none⟩ = some (.slice r_188 (xs.length + 1) cc_189))) w_235 := ⟨c_239, ((f_242).cell rfl), ((f_242).cell rfl), ((f_242).cell rfl)⟩
      refine ⟨.inl hS_246, ?_⟩
      refine K.DW.l 3 rfl (by kernel_rfl) rfl (K.OW.st [.int .i64 1, .int .u32 0] [.int .i64 1, .int .u32 0] rfl rfl rfl (by kernel_rfl) f_244 rfl (K.one_cells (by rfl)) rfl rfl ?_)
      intro w_247 e_248 hs_249 b_250
      have c_251 := c_239.own e_248 (by omega)
      have z_252 := c_251.size
      have zz_253 := e_248.size
      have f_254 := f_242.chg e_248 (f_242.ne f_244 (by decide))
      have f_255 := f_243.chg e_248 (f_243.ne f_244 (by decide))
      have f_256 := b_238.chg e_248 (b_238.ne f_244 (by decide))
      have f_257 := f_245.chg e_248 (fun k hk hy => f_245.ne_ty f_244 (by decide) k hk hy)
      refine ⟨.inr (by kernel_rfl), ?_⟩
      refine K.DW.done (by kernel_rfl) ?_
      refine K.thn_normal ?_
      refine K.KW.ret ?_
      refine ⟨.inr rfl, rfl, (.tuple #[.agg #[.slice q nq cq, .slice s ns cs, .slice r_188 (xs.length + 1) cc_189], .agg #[.int .i64 1, .int .u32 0]]), K.resAt (rs := [.cell 4 42, .cell 5 52]) [.agg #[.slice q nq cq, .slice s ns cs, .slice r_188 (xs.length + 1) cc_189], .agg #[.int .i64 1, .int .u32 0]] rfl ⟨⟨_, rfl, K.lvN [.slice q nq cq, .slice s ns cs, .slice r_188 (xs.length + 1) cc_189] (by kernel_rfl) (by kernel_rfl) (K.cells (K.cl (f_256.cell rfl) (K.cl (f_256.cell rfl) (K.cl (f_256.cell rfl) K.cl0))))⟩, ⟨_, rfl, K.lvN [.int .i64 1, .int .u32 0] (by kernel_rfl) (by kernel_rfl) (K.cells (K.cl (b_250.cell rfl) (K.cl (b_250.cell rfl) K.cl0)))⟩, trivial⟩, ?_⟩
      rw [pairsT_ft (by assumption) (by assumption : (kind : Int) = (6 : Int))] at hT
      simp only [Prod.mk.injEq] at hT
      obtain ⟨rfl, rfl, rfl⟩ := hT
      have hln := insT_len (xs := xs) (i := posT (keysP xs) key) (x := (⟨key, val⟩ : PairM)) (by omega)
      rw [hln]
      exact .inl ⟨_, _, rfl, c_251, f_257⟩
    ·  -- no
      refine K.RW.q rfl rfl (K.QR.nice (v := .bool ((kind : Int) != (6 : Int))) (by kernel_rfl) (congrArg Value.bool (bne_iff_ne.2 h_187))) ?_
      refine K.RW.q rfl rfl (K.QR.k (v := .bool true) (by kernel_rfl)) ?_
      refine K.RW.nil ?_
      refine K.thn_normal ?_
      refine K.KW.ifT rfl ?_
      refine K.KW.seq ?_
      -- region 9 model.go:89
      refine K.KW.drawn (fun w => K.Chg K.No w0 w ∧ (w.cell? ⟨r_2, 0, none⟩ = some (.slice q nq cq)) ∧ (w.cell? ⟨r_2, 1, none⟩ = some (.slice s ns cs)) ∧ (w.cell? ⟨r_2, 2, none⟩ = some (.slice m xs.length cm))) (by kernel_rfl) ?_
      intro w_259 e_260 hs_261
      have c_263 := c_178.no e_260
      have z_264 := c_263.size
      have zz_265 := e_260.size
      have f_266 := f_181.no e_260
      have f_267 := f_182.no e_260
      have f_268 := f_183.no e_260
      have f_269 := f_184.no e_260
      have hS_262 : (fun w => K.Chg K.No w0 w ∧ (w.cell? ⟨r_2, 0, none⟩ = some (.slice q nq cq)) ∧ (w.cell? ⟨r_2, 1, none⟩ = some (.slice s ns cs)) ∧ (w.cell? ⟨r_2, 2, none⟩ = some (.slice m xs.length cm))) w_259 := ⟨c_263, ((f_266).cell rfl), ((f_266).cell rfl), ((f_266).cell rfl)⟩
      refine K.DW.q 0 (by kernel_rfl) rfl rfl (by kernel_rfl) rfl (fun w hS => K.QR.ldN [.slice q nq cq, .slice s ns cs, .slice m xs.length cm] rfl rfl (by kernel_rfl) (by kernel_rfl) (K.cells (K.cl (hS.2.1) (K.cl (hS.2.2.1) (K.cl (hS.2.2.2) K.cl0))))) hS_262 ?_
      refine K.DW.l 1 rfl (by kernel_rfl) rfl (K.OW.call rfl [.int .i64 4, .int .u32 0] rfl rfl (by kernel_rfl) (result_ok 4 0 _) ?_)
      rintro _ w_271 ⟨rfl, c_270⟩
      have c_272 := c_263.no c_270
      have z_273 := c_272.size
      have zz_274 := c_270.size
      have f_275 := f_266.no c_270
      have f_276 := f_267.no c_270
      have f_277 := f_268.no c_270
      have f_278 := f_269.no c_270
      have hS_279 : (fun w => K.Chg K.No w0 w ∧ (w.cell? ⟨r_2, 0, none⟩ = some (.slice q nq cq)) ∧ (w.cell? ⟨r_2, 1, none⟩ = some (.slice s ns cs)) ∧ (w.cell? ⟨r_2, 2, none⟩ = some (.slice m xs.length cm))) w_271 := ⟨c_272, ((f_275).cell rfl), ((f_275).cell rfl), ((f_275).cell rfl)⟩
      refine ⟨.inl hS_279, ?_⟩
      refine K.DW.l 2 rfl (by kernel_rfl) rfl (K.OW.st [.slice q nq cq, .slice s ns cs, .slice m xs.length cm] [.slice q nq cq, .slice s ns cs, .slice m xs.length cm] rfl rfl rfl (by kernel_rfl) f_277 rfl (K.one_cells (by rfl)) rfl rfl ?_)
      intro w_280 e_281 hs_282 b_283
      have c_284 := c_272.own e_281 (by omega)
      have z_285 := c_284.size
      have zz_286 := e_281.size
      have f_287 := f_275.chg e_281 (by unfold K.Is; omega)
      have f_288 := f_276.chg e_281 (f_276.ne f_277 (by decide))
      have f_289 := f_278.chg e_281 (f_278.ne f_277 (by decide))
      have hS_290 : (fun w => K.Chg K.No w0 w ∧ (w.cell? ⟨r_2, 0, none⟩ = some (.slice q nq cq)) ∧ (w.cell? ⟨r_2, 1, none⟩ = some (.slice s ns cs)) ∧ (w.cell? ⟨r_2, 2, none⟩ = some (.slice m xs.length cm))) w_280 := ⟨c_284, ((f_287).cell rfl), ((f_287).cell rfl), ((f_287).cell rfl)⟩
      refine ⟨.inl hS_290, ?_⟩
      refine K.DW.l 3 rfl (by kernel_rfl) rfl (K.OW.st [.int .i64 4, .int .u32 0] [.int .i64 4, .int .u32 0] rfl rfl rfl (by kernel_rfl) f_289 rfl (K.one_cells (by rfl)) rfl rfl ?_)
      intro w_291 e_292 hs_293 b_294
      have c_295 := c_284.own e_292 (by omega)
      have z_296 := c_295.size
      have zz_297 := e_292.size
      have f_298 := f_287.chg e_292 (f_287.ne f_289 (by decide))
      have f_299 := f_288.chg e_292 (f_288.ne f_289 (by decide))
      have f_300 := b_283.chg e_292 (b_283.ne f_289 (by decide))
      refine ⟨.inr (by kernel_rfl), ?_⟩
      refine K.DW.done (by kernel_rfl) ?_
      refine K.thn_normal ?_
      refine K.KW.ret ?_
      refine K.blk_ret ?_
      refine K.thn_ret ?_
      refine ⟨.inr rfl, rfl, (.tuple #[.agg #[.slice q nq cq, .slice s ns cs, .slice m xs.length cm], .agg #[.int .i64 4, .int .u32 0]]), K.resAt (rs := [.cell 4 42, .cell 5 52]) [.agg #[.slice q nq cq, .slice s ns cs, .slice m xs.length cm], .agg #[.int .i64 4, .int .u32 0]] rfl ⟨⟨_, rfl, K.lvN [.slice q nq cq, .slice s ns cs, .slice m xs.length cm] (by kernel_rfl) (by kernel_rfl) (K.cells (K.cl (f_300.cell rfl) (K.cl (f_300.cell rfl) (K.cl (f_300.cell rfl) K.cl0))))⟩, ⟨_, rfl, K.lvN [.int .i64 4, .int .u32 0] (by kernel_rfl) (by kernel_rfl) (K.cells (K.cl (b_294.cell rfl) (K.cl (b_294.cell rfl) K.cl0)))⟩, trivial⟩, ?_⟩
      first | (rw [pairsT_tf (by assumption) (by assumption)] at hT; simp only [Prod.mk.injEq] at hT; obtain ⟨rfl, rfl, rfl⟩ := hT; exact .inr ⟨rfl, rfl, c_295⟩) | (rw [pairsT_ff (by assumption) (by assumption)] at hT; simp only [Prod.mk.injEq] at hT; obtain ⟨rfl, rfl, rfl⟩ := hT; exact .inr ⟨rfl, rfl, c_295⟩)

theorem apply6_aux {xs ys : List PairM} {kind key val rk rv : Int} (hT : pairsT xs kind key val = (ys, rk, rv)) : (pairsT xs kind key val).1 = ys ∧ (pairsT xs kind key val).2.1 = rk ∧ (pairsT xs kind key val).2.2 = rv := by rw [hT]; exact ⟨rfl, rfl, rfl⟩
def risingB (ks : List Int) : Bool := (List.range (ks.length - 1)).all fun i => decide (ks.getD i 0 < ks.getD (i + 1) 0)
theorem rising_lit {ks : List Int} (h : risingB ks = true) : rising ks := fun i hi => by
  have := List.all_eq_true.1 h i (List.mem_range.2 (by omega))
  exact of_decide_eq_true this

set_option maxHeartbeats 1000000 in
set_option maxRecDepth 100000 in
theorem apply6_ok (q s m : Option Addr) (nq cq ns cs cm : Nat) (xs ys : List PairM) (kind key val rk rv : Int) (w0 : World) (hm : xs.length ≤ 1000000) (hk : kind = 6 ∨ kind = 7 ∨ kind = 8) (hr : rising (keysP xs)) (hx : RPr w0 m xs) (hT : pairsT xs kind key val = (ys, rk, rv)) :
    K.KC Try.prog 28 #[.agg #[.slice q nq cq, .slice s ns cs, .slice m xs.length cm], .agg #[.int .i64 kind, .int .u32 key, .int .u32 val]] w0 (fun v w' => (∃ m' c', v = .tuple #[.agg #[.slice q nq cq, .slice s ns cs, .slice m' ys.length c'], .agg #[.int .i64 rk, .int .u32 rv]] ∧ K.Chg K.No w0 w' ∧ K.Own w' w0.heap.size 121 2 m' ys.length c' (ys.flatMap cPair)) ∨ (ys = xs ∧ v = .tuple #[.agg #[.slice q nq cq, .slice s ns cs, .slice m xs.length cm], .agg #[.int .i64 rk, .int .u32 rv]] ∧ K.Chg K.No w0 w')) := by
  refine K.KC.mk (n := 36) Try.func28 rfl rfl [.agg #[.slice q nq cq, .slice s ns cs, .slice m xs.length cm], .agg #[.int .i64 kind, .int .u32 key, .int .u32 val]] rfl rfl ?_
  refine K.KW.seq ?_
  -- region 0 model.go:96
  refine K.KW.region ?_
  refine K.RW.l rfl (K.OW.new (t := 42) rfl (fun r => .pointer (some ⟨r, 0, none⟩)) [.slice q nq cq, .slice s ns cs, .slice m xs.length cm] (by kernel_rfl) ?_) 
  intro w_1 r_2 hr_3 e_4 hs_5 b_6
  have c_7 := e_4
  have z_8 := c_7.size
  have zz_9 := e_4.size
  refine K.RW.l rfl (K.OW.new (t := 45) rfl (fun r => .pointer (some ⟨r, 0, none⟩)) [.int .i64 kind, .int .u32 key, .int .u32 val] (by kernel_rfl) ?_) 
  intro w_10 r_11 hr_12 e_13 hs_14 b_15
  have c_16 := c_7.no e_13
  have z_17 := c_16.size
  have zz_18 := e_13.size
  have f_19 := b_6.no e_13
  refine K.RW.l rfl (K.OW.new (t := 42) rfl (fun r => .pointer (some ⟨r, 0, none⟩)) [.slice none 0 0, .slice none 0 0, .slice none 0 0] (by kernel_rfl) ?_) 
  intro w_20 r_21 hr_22 e_23 hs_24 b_25
  have c_26 := c_16.no e_23
  have z_27 := c_26.size
  have zz_28 := e_23.size
  have f_29 := f_19.no e_23
  have f_30 := b_15.no e_23
  refine K.RW.l rfl (K.OW.new (t := 52) rfl (fun r => .pointer (some ⟨r, 0, none⟩)) [.int .i64 0, .int .u32 0] (by kernel_rfl) ?_) 
  intro w_31 r_32 hr_33 e_34 hs_35 b_36
  have c_37 := c_26.no e_34
  have z_38 := c_37.size
  have zz_39 := e_34.size
  have f_40 := f_29.no e_34
  have f_41 := f_30.no e_34
  have f_42 := b_25.no e_34
  refine K.RW.nil ?_
  refine K.thn_normal ?_
  refine K.KW.seq ?_
  refine K.KW.seq ?_
  -- region 1 model.go:97
  refine K.KW.region ?_
  refine K.RW.q rfl rfl (K.QR.k (v := .pointer (some ⟨r_11, 0, none⟩)) (by kernel_rfl)) ?_
  refine K.RW.q rfl rfl (K.QR.ld1 (v := .int .i64 kind) rfl rfl (by kernel_rfl) (f_41.cell rfl)) ?_
  refine K.RW.nil ?_
  refine K.thn_normal ?_
  refine K.KW.block ?_
  refine K.KW.seq ?_
  refine K.KW.seq ?_
  -- region 2 model.go:98
  refine K.KW.region ?_
  refine K.RW.q rfl rfl (K.QR.nice (v := .bool ((kind : Int) == (1 : Int))) (by kernel_rfl) (congrArg Value.bool (beq_eq_false_iff_ne.2 (by omega)))) ?_
  refine K.RW.q rfl rfl (K.QR.k (v := .bool false) (by kernel_rfl)) ?_
  refine K.RW.nil ?_
  refine K.thn_normal ?_
  refine K.KW.ifF rfl ?_
  -- region 3 model.go:98
  refine K.KW.region ?_
  refine K.RW.q rfl rfl (K.QR.nice (v := .bool ((kind : Int) == (2 : Int))) (by kernel_rfl) (congrArg Value.bool (beq_eq_false_iff_ne.2 (by omega)))) ?_
  refine K.RW.q rfl rfl (K.QR.k (v := .bool false) (by kernel_rfl)) ?_
  refine K.RW.nil ?_
  refine K.thn_normal ?_
  refine K.KW.ifF rfl ?_
  refine K.KW.seq ?_
  refine K.KW.seq ?_
  -- region 5 model.go:100
  refine K.KW.region ?_
  refine K.RW.q rfl rfl (K.QR.nice (v := .bool ((kind : Int) == (3 : Int))) (by kernel_rfl) (congrArg Value.bool (beq_eq_false_iff_ne.2 (by omega)))) ?_
  refine K.RW.q rfl rfl (K.QR.k (v := .bool false) (by kernel_rfl)) ?_
  refine K.RW.nil ?_
  refine K.thn_normal ?_
  refine K.KW.ifF rfl ?_
  refine K.KW.seq ?_
  -- region 6 model.go:100
  refine K.KW.region ?_
  refine K.RW.q rfl rfl (K.QR.nice (v := .bool ((kind : Int) == (4 : Int))) (by kernel_rfl) (congrArg Value.bool (beq_eq_false_iff_ne.2 (by omega)))) ?_
  refine K.RW.q rfl rfl (K.QR.k (v := .bool false) (by kernel_rfl)) ?_
  refine K.RW.nil ?_
  refine K.thn_normal ?_
  refine K.KW.ifF rfl ?_
  -- region 7 model.go:100
  refine K.KW.region ?_
  refine K.RW.q rfl rfl (K.QR.nice (v := .bool ((kind : Int) == (5 : Int))) (by kernel_rfl) (congrArg Value.bool (beq_eq_false_iff_ne.2 (by omega)))) ?_
  refine K.RW.q rfl rfl (K.QR.k (v := .bool false) (by kernel_rfl)) ?_
  refine K.RW.nil ?_
  refine K.thn_normal ?_
  refine K.KW.ifF rfl ?_
  refine K.KW.seq ?_
  refine K.KW.seq ?_
  -- region 9 model.go:102
  refine K.KW.region ?_
  by_cases h_43 : (kind : Int) = (6 : Int)
  ·  -- yes
    refine K.RW.q rfl rfl (K.QR.nice (v := .bool ((kind : Int) == (6 : Int))) (by kernel_rfl) (congrArg Value.bool (beq_iff_eq.2 h_43))) ?_
    refine K.RW.q rfl rfl (K.QR.k (v := .bool true) (by kernel_rfl)) ?_
    refine K.RW.nil ?_
    refine K.thn_normal ?_
    refine K.KW.ifT rfl ?_
    refine K.KW.skip ?_
    refine K.thn_normal ?_
    refine K.KW.ifT rfl ?_
    refine K.KW.seq ?_
    -- region 12 model.go:103
    refine K.KW.region ?_
    refine K.RW.q rfl rfl (K.QR.ldN [.slice q nq cq, .slice s ns cs, .slice m xs.length cm] rfl rfl (by kernel_rfl) (by kernel_rfl) (K.cells (K.cl (f_40.cell rfl) (K.cl (f_40.cell rfl) (K.cl (f_40.cell rfl) K.cl0))))) ?_
    refine K.RW.q rfl rfl (K.QR.ldN [.int .i64 kind, .int .u32 key, .int .u32 val] rfl rfl (by kernel_rfl) (by kernel_rfl) (K.cells (K.cl (f_41.cell rfl) (K.cl (f_41.cell rfl) (K.cl (f_41.cell rfl) K.cl0))))) ?_
    refine K.RW.l rfl (K.OW.call rfl [.agg #[.slice q nq cq, .slice s ns cs, .slice m xs.length cm], .agg #[.int .i64 kind, .int .u32 key, .int .u32 val]] rfl rfl (by kernel_rfl) (pairs_ok _ _ _ _ _ _ _ _ xs ys kind key val rk rv _ hm hk hr (hx.no c_37) hT) ?_) 
    rintro _ w_46 (⟨m_44, c_45, rfl, ch_47, hx_48⟩ | ⟨hs_49, rfl, ch_50⟩)
    ·  -- a new row
      have c_51 := c_37.no ch_47
      have z_52 := c_51.size
      have zz_53 := ch_47.size
      have f_54 := f_40.no ch_47
      have f_55 := f_41.no ch_47
      have f_56 := f_42.no ch_47
      have f_57 := b_36.no ch_47
      have o_58 := K.Own.mono (base' := w0.heap.size) hx_48 (by omega)
      refine K.RW.q rfl rfl (K.QR.k (v := .agg #[.slice q nq cq, .slice s ns cs, .slice m_44 ys.length c_45]) (by kernel_rfl)) ?_
      refine K.RW.q rfl rfl (K.QR.k (v := .agg #[.int .i64 rk, .int .u32 rv]) (by kernel_rfl)) ?_
      refine K.RW.l rfl (K.OW.st [.slice q nq cq, .slice s ns cs, .slice m_44 ys.length c_45] [.slice q nq cq, .slice s ns cs, .slice m_44 ys.length c_45] rfl rfl rfl (by kernel_rfl) f_56 rfl (K.one_cells (by rfl)) rfl rfl ?_) 
      intro w_59 e_60 hs_61 b_62
      have c_63 := c_51.own e_60 (by omega)
      have z_64 := c_63.size
      have zz_65 := e_60.size
      have f_66 := f_54.chg e_60 (by unfold K.Is; omega)
      have f_67 := f_55.chg e_60 (f_55.ne f_56 (by decide))
      have f_68 := f_57.chg e_60 (f_57.ne f_56 (by decide))
      have f_69 := o_58.chg e_60 (fun k hk hy => o_58.ne_ty f_56 (by decide) k hk hy)
      refine K.RW.l rfl (K.OW.st [.int .i64 rk, .int .u32 rv] [.int .i64 rk, .int .u32 rv] rfl rfl rfl (by kernel_rfl) f_68 rfl (K.one_cells (by rfl)) rfl rfl ?_) 
      intro w_70 e_71 hs_72 b_73
      have c_74 := c_63.own e_71 (by omega)
      have z_75 := c_74.size
      have zz_76 := e_71.size
      have f_77 := f_66.chg e_71 (f_66.ne f_68 (by decide))
      have f_78 := f_67.chg e_71 (f_67.ne f_68 (by decide))
      have f_79 := b_62.chg e_71 (b_62.ne f_68 (by decide))
      have f_80 := f_69.chg e_71 (fun k hk hy => f_69.ne_ty f_68 (by decide) k hk hy)
      refine K.RW.nil ?_
      refine K.thn_normal ?_
      refine K.KW.ret ?_
      refine K.blk_ret ?_
      refine K.thn_ret ?_
      refine ⟨.inr rfl, rfl, (.tuple #[.agg #[.slice q nq cq, .slice s ns cs, .slice m_44 ys.length c_45], .agg #[.int .i64 rk, .int .u32 rv]]), K.resAt (rs := [.cell 4 42, .cell 5 52]) [.agg #[.slice q nq cq, .slice s ns cs, .slice m_44 ys.length c_45], .agg #[.int .i64 rk, .int .u32 rv]] rfl ⟨⟨_, rfl, K.lvN [.slice q nq cq, .slice s ns cs, .slice m_44 ys.length c_45] (by kernel_rfl) (by kernel_rfl) (K.cells (K.cl (f_79.cell rfl) (K.cl (f_79.cell rfl) (K.cl (f_79.cell rfl) K.cl0))))⟩, ⟨_, rfl, K.lvN [.int .i64 rk, .int .u32 rv] (by kernel_rfl) (by kernel_rfl) (K.cells (K.cl (b_73.cell rfl) (K.cl (b_73.cell rfl) K.cl0)))⟩, trivial⟩, ?_⟩
      exact .inl ⟨_, _, rfl, c_74, f_80⟩
    ·  -- as it was
      have c_81 := c_37.no ch_50
      have z_82 := c_81.size
      have zz_83 := ch_50.size
      have f_84 := f_40.no ch_50
      have f_85 := f_41.no ch_50
      have f_86 := f_42.no ch_50
      have f_87 := b_36.no ch_50
      refine K.RW.q rfl rfl (K.QR.k (v := .agg #[.slice q nq cq, .slice s ns cs, .slice m xs.length cm]) (by kernel_rfl)) ?_
      refine K.RW.q rfl rfl (K.QR.k (v := .agg #[.int .i64 rk, .int .u32 rv]) (by kernel_rfl)) ?_
      refine K.RW.l rfl (K.OW.st [.slice q nq cq, .slice s ns cs, .slice m xs.length cm] [.slice q nq cq, .slice s ns cs, .slice m xs.length cm] rfl rfl rfl (by kernel_rfl) f_86 rfl (K.one_cells (by rfl)) rfl rfl ?_) 
      intro w_88 e_89 hs_90 b_91
      have c_92 := c_81.own e_89 (by omega)
      have z_93 := c_92.size
      have zz_94 := e_89.size
      have f_95 := f_84.chg e_89 (by unfold K.Is; omega)
      have f_96 := f_85.chg e_89 (f_85.ne f_86 (by decide))
      have f_97 := f_87.chg e_89 (f_87.ne f_86 (by decide))
      refine K.RW.l rfl (K.OW.st [.int .i64 rk, .int .u32 rv] [.int .i64 rk, .int .u32 rv] rfl rfl rfl (by kernel_rfl) f_97 rfl (K.one_cells (by rfl)) rfl rfl ?_) 
      intro w_98 e_99 hs_100 b_101
      have c_102 := c_92.own e_99 (by omega)
      have z_103 := c_102.size
      have zz_104 := e_99.size
      have f_105 := f_95.chg e_99 (f_95.ne f_97 (by decide))
      have f_106 := f_96.chg e_99 (f_96.ne f_97 (by decide))
      have f_107 := b_91.chg e_99 (b_91.ne f_97 (by decide))
      refine K.RW.nil ?_
      refine K.thn_normal ?_
      refine K.KW.ret ?_
      refine K.blk_ret ?_
      refine K.thn_ret ?_
      refine ⟨.inr rfl, rfl, (.tuple #[.agg #[.slice q nq cq, .slice s ns cs, .slice m xs.length cm], .agg #[.int .i64 rk, .int .u32 rv]]), K.resAt (rs := [.cell 4 42, .cell 5 52]) [.agg #[.slice q nq cq, .slice s ns cs, .slice m xs.length cm], .agg #[.int .i64 rk, .int .u32 rv]] rfl ⟨⟨_, rfl, K.lvN [.slice q nq cq, .slice s ns cs, .slice m xs.length cm] (by kernel_rfl) (by kernel_rfl) (K.cells (K.cl (f_107.cell rfl) (K.cl (f_107.cell rfl) (K.cl (f_107.cell rfl) K.cl0))))⟩, ⟨_, rfl, K.lvN [.int .i64 rk, .int .u32 rv] (by kernel_rfl) (by kernel_rfl) (K.cells (K.cl (b_101.cell rfl) (K.cl (b_101.cell rfl) K.cl0)))⟩, trivial⟩, ?_⟩
      exact .inr ⟨by assumption, rfl, c_102⟩
  ·  -- no
    refine K.RW.q rfl rfl (K.QR.nice (v := .bool ((kind : Int) == (6 : Int))) (by kernel_rfl) (congrArg Value.bool (beq_eq_false_iff_ne.2 h_43))) ?_
    refine K.RW.q rfl rfl (K.QR.k (v := .bool false) (by kernel_rfl)) ?_
    refine K.RW.nil ?_
    refine K.thn_normal ?_
    refine K.KW.ifF rfl ?_
    refine K.KW.seq ?_
    -- region 10 model.go:102
    refine K.KW.region ?_
    by_cases h_108 : (kind : Int) = (7 : Int)
    ·  -- yes
      refine K.RW.q rfl rfl (K.QR.nice (v := .bool ((kind : Int) == (7 : Int))) (by kernel_rfl) (congrArg Value.bool (beq_iff_eq.2 h_108))) ?_
      refine K.RW.q rfl rfl (K.QR.k (v := .bool true) (by kernel_rfl)) ?_
      refine K.RW.nil ?_
      refine K.thn_normal ?_
      refine K.KW.ifT rfl ?_
      refine K.KW.skip ?_
      refine K.thn_normal ?_
      refine K.KW.ifT rfl ?_
      refine K.KW.seq ?_
      -- region 12 model.go:103
      refine K.KW.region ?_
      refine K.RW.q rfl rfl (K.QR.ldN [.slice q nq cq, .slice s ns cs, .slice m xs.length cm] rfl rfl (by kernel_rfl) (by kernel_rfl) (K.cells (K.cl (f_40.cell rfl) (K.cl (f_40.cell rfl) (K.cl (f_40.cell rfl) K.cl0))))) ?_
      refine K.RW.q rfl rfl (K.QR.ldN [.int .i64 kind, .int .u32 key, .int .u32 val] rfl rfl (by kernel_rfl) (by kernel_rfl) (K.cells (K.cl (f_41.cell rfl) (K.cl (f_41.cell rfl) (K.cl (f_41.cell rfl) K.cl0))))) ?_
      refine K.RW.l rfl (K.OW.call rfl [.agg #[.slice q nq cq, .slice s ns cs, .slice m xs.length cm], .agg #[.int .i64 kind, .int .u32 key, .int .u32 val]] rfl rfl (by kernel_rfl) (pairs_ok _ _ _ _ _ _ _ _ xs ys kind key val rk rv _ hm hk hr (hx.no c_37) hT) ?_) 
      rintro _ w_111 (⟨m_109, c_110, rfl, ch_112, hx_113⟩ | ⟨hs_114, rfl, ch_115⟩)
      ·  -- a new row
        have c_116 := c_37.no ch_112
        have z_117 := c_116.size
        have zz_118 := ch_112.size
        have f_119 := f_40.no ch_112
        have f_120 := f_41.no ch_112
        have f_121 := f_42.no ch_112
        have f_122 := b_36.no ch_112
        have o_123 := K.Own.mono (base' := w0.heap.size) hx_113 (by omega)
        refine K.RW.q rfl rfl (K.QR.k (v := .agg #[.slice q nq cq, .slice s ns cs, .slice m_109 ys.length c_110]) (by kernel_rfl)) ?_
        refine K.RW.q rfl rfl (K.QR.k (v := .agg #[.int .i64 rk, .int .u32 rv]) (by kernel_rfl)) ?_
        refine K.RW.l rfl (K.OW.st [.slice q nq cq, .slice s ns cs, .slice m_109 ys.length c_110] [.slice q nq cq, .slice s ns cs, .slice m_109 ys.length c_110] rfl rfl rfl (by kernel_rfl) f_121 rfl (K.one_cells (by rfl)) rfl rfl ?_) 
        intro w_124 e_125 hs_126 b_127
        have c_128 := c_116.own e_125 (by omega)
        have z_129 := c_128.size
        have zz_130 := e_125.size
        have f_131 := f_119.chg e_125 (by unfold K.Is; omega)
        have f_132 := f_120.chg e_125 (f_120.ne f_121 (by decide))
        have f_133 := f_122.chg e_125 (f_122.ne f_121 (by decide))
        have f_134 := o_123.chg e_125 (fun k hk hy => o_123.ne_ty f_121 (by decide) k hk hy)
        refine K.RW.l rfl (K.OW.st [.int .i64 rk, .int .u32 rv] [.int .i64 rk, .int .u32 rv] rfl rfl rfl (by kernel_rfl) f_133 rfl (K.one_cells (by rfl)) rfl rfl ?_) 
        intro w_135 e_136 hs_137 b_138
        have c_139 := c_128.own e_136 (by omega)
        have z_140 := c_139.size
        have zz_141 := e_136.size
        have f_142 := f_131.chg e_136 (f_131.ne f_133 (by decide))
        have f_143 := f_132.chg e_136 (f_132.ne f_133 (by decide))
        have f_144 := b_127.chg e_136 (b_127.ne f_133 (by decide))
        have f_145 := f_134.chg e_136 (fun k hk hy => f_134.ne_ty f_133 (by decide) k hk hy)
        refine K.RW.nil ?_
        refine K.thn_normal ?_
        refine K.KW.ret ?_
        refine K.blk_ret ?_
        refine K.thn_ret ?_
        refine ⟨.inr rfl, rfl, (.tuple #[.agg #[.slice q nq cq, .slice s ns cs, .slice m_109 ys.length c_110], .agg #[.int .i64 rk, .int .u32 rv]]), K.resAt (rs := [.cell 4 42, .cell 5 52]) [.agg #[.slice q nq cq, .slice s ns cs, .slice m_109 ys.length c_110], .agg #[.int .i64 rk, .int .u32 rv]] rfl ⟨⟨_, rfl, K.lvN [.slice q nq cq, .slice s ns cs, .slice m_109 ys.length c_110] (by kernel_rfl) (by kernel_rfl) (K.cells (K.cl (f_144.cell rfl) (K.cl (f_144.cell rfl) (K.cl (f_144.cell rfl) K.cl0))))⟩, ⟨_, rfl, K.lvN [.int .i64 rk, .int .u32 rv] (by kernel_rfl) (by kernel_rfl) (K.cells (K.cl (b_138.cell rfl) (K.cl (b_138.cell rfl) K.cl0)))⟩, trivial⟩, ?_⟩
        exact .inl ⟨_, _, rfl, c_139, f_145⟩
      ·  -- as it was
        have c_146 := c_37.no ch_115
        have z_147 := c_146.size
        have zz_148 := ch_115.size
        have f_149 := f_40.no ch_115
        have f_150 := f_41.no ch_115
        have f_151 := f_42.no ch_115
        have f_152 := b_36.no ch_115
        refine K.RW.q rfl rfl (K.QR.k (v := .agg #[.slice q nq cq, .slice s ns cs, .slice m xs.length cm]) (by kernel_rfl)) ?_
        refine K.RW.q rfl rfl (K.QR.k (v := .agg #[.int .i64 rk, .int .u32 rv]) (by kernel_rfl)) ?_
        refine K.RW.l rfl (K.OW.st [.slice q nq cq, .slice s ns cs, .slice m xs.length cm] [.slice q nq cq, .slice s ns cs, .slice m xs.length cm] rfl rfl rfl (by kernel_rfl) f_151 rfl (K.one_cells (by rfl)) rfl rfl ?_) 
        intro w_153 e_154 hs_155 b_156
        have c_157 := c_146.own e_154 (by omega)
        have z_158 := c_157.size
        have zz_159 := e_154.size
        have f_160 := f_149.chg e_154 (by unfold K.Is; omega)
        have f_161 := f_150.chg e_154 (f_150.ne f_151 (by decide))
        have f_162 := f_152.chg e_154 (f_152.ne f_151 (by decide))
        refine K.RW.l rfl (K.OW.st [.int .i64 rk, .int .u32 rv] [.int .i64 rk, .int .u32 rv] rfl rfl rfl (by kernel_rfl) f_162 rfl (K.one_cells (by rfl)) rfl rfl ?_) 
        intro w_163 e_164 hs_165 b_166
        have c_167 := c_157.own e_164 (by omega)
        have z_168 := c_167.size
        have zz_169 := e_164.size
        have f_170 := f_160.chg e_164 (f_160.ne f_162 (by decide))
        have f_171 := f_161.chg e_164 (f_161.ne f_162 (by decide))
        have f_172 := b_156.chg e_164 (b_156.ne f_162 (by decide))
        refine K.RW.nil ?_
        refine K.thn_normal ?_
        refine K.KW.ret ?_
        refine K.blk_ret ?_
        refine K.thn_ret ?_
        refine ⟨.inr rfl, rfl, (.tuple #[.agg #[.slice q nq cq, .slice s ns cs, .slice m xs.length cm], .agg #[.int .i64 rk, .int .u32 rv]]), K.resAt (rs := [.cell 4 42, .cell 5 52]) [.agg #[.slice q nq cq, .slice s ns cs, .slice m xs.length cm], .agg #[.int .i64 rk, .int .u32 rv]] rfl ⟨⟨_, rfl, K.lvN [.slice q nq cq, .slice s ns cs, .slice m xs.length cm] (by kernel_rfl) (by kernel_rfl) (K.cells (K.cl (f_172.cell rfl) (K.cl (f_172.cell rfl) (K.cl (f_172.cell rfl) K.cl0))))⟩, ⟨_, rfl, K.lvN [.int .i64 rk, .int .u32 rv] (by kernel_rfl) (by kernel_rfl) (K.cells (K.cl (b_166.cell rfl) (K.cl (b_166.cell rfl) K.cl0)))⟩, trivial⟩, ?_⟩
        exact .inr ⟨by assumption, rfl, c_167⟩
    ·  -- no
      refine K.RW.q rfl rfl (K.QR.nice (v := .bool ((kind : Int) == (7 : Int))) (by kernel_rfl) (congrArg Value.bool (beq_eq_false_iff_ne.2 h_108))) ?_
      refine K.RW.q rfl rfl (K.QR.k (v := .bool false) (by kernel_rfl)) ?_
      refine K.RW.nil ?_
      refine K.thn_normal ?_
      refine K.KW.ifF rfl ?_
      -- region 11 model.go:102
      refine K.KW.region ?_
      refine K.RW.q rfl rfl (K.QR.nice (v := .bool ((kind : Int) == (8 : Int))) (by kernel_rfl) (congrArg Value.bool (beq_iff_eq.2 (by omega)))) ?_
      refine K.RW.q rfl rfl (K.QR.k (v := .bool true) (by kernel_rfl)) ?_
      refine K.RW.nil ?_
      refine K.thn_normal ?_
      refine K.KW.ifT rfl ?_
      refine K.KW.seq ?_
      -- region 12 model.go:103
      refine K.KW.region ?_
      refine K.RW.q rfl rfl (K.QR.ldN [.slice q nq cq, .slice s ns cs, .slice m xs.length cm] rfl rfl (by kernel_rfl) (by kernel_rfl) (K.cells (K.cl (f_40.cell rfl) (K.cl (f_40.cell rfl) (K.cl (f_40.cell rfl) K.cl0))))) ?_
      refine K.RW.q rfl rfl (K.QR.ldN [.int .i64 kind, .int .u32 key, .int .u32 val] rfl rfl (by kernel_rfl) (by kernel_rfl) (K.cells (K.cl (f_41.cell rfl) (K.cl (f_41.cell rfl) (K.cl (f_41.cell rfl) K.cl0))))) ?_
      refine K.RW.l rfl (K.OW.call rfl [.agg #[.slice q nq cq, .slice s ns cs, .slice m xs.length cm], .agg #[.int .i64 kind, .int .u32 key, .int .u32 val]] rfl rfl (by kernel_rfl) (pairs_ok _ _ _ _ _ _ _ _ xs ys kind key val rk rv _ hm hk hr (hx.no c_37) hT) ?_) 
      rintro _ w_175 (⟨m_173, c_174, rfl, ch_176, hx_177⟩ | ⟨hs_178, rfl, ch_179⟩)
      ·  -- a new row
        have c_180 := c_37.no ch_176
        have z_181 := c_180.size
        have zz_182 := ch_176.size
        have f_183 := f_40.no ch_176
        have f_184 := f_41.no ch_176
        have f_185 := f_42.no ch_176
        have f_186 := b_36.no ch_176
        have o_187 := K.Own.mono (base' := w0.heap.size) hx_177 (by omega)
        refine K.RW.q rfl rfl (K.QR.k (v := .agg #[.slice q nq cq, .slice s ns cs, .slice m_173 ys.length c_174]) (by kernel_rfl)) ?_
        refine K.RW.q rfl rfl (K.QR.k (v := .agg #[.int .i64 rk, .int .u32 rv]) (by kernel_rfl)) ?_
        refine K.RW.l rfl (K.OW.st [.slice q nq cq, .slice s ns cs, .slice m_173 ys.length c_174] [.slice q nq cq, .slice s ns cs, .slice m_173 ys.length c_174] rfl rfl rfl (by kernel_rfl) f_185 rfl (K.one_cells (by rfl)) rfl rfl ?_) 
        intro w_188 e_189 hs_190 b_191
        have c_192 := c_180.own e_189 (by omega)
        have z_193 := c_192.size
        have zz_194 := e_189.size
        have f_195 := f_183.chg e_189 (by unfold K.Is; omega)
        have f_196 := f_184.chg e_189 (f_184.ne f_185 (by decide))
        have f_197 := f_186.chg e_189 (f_186.ne f_185 (by decide))
        have f_198 := o_187.chg e_189 (fun k hk hy => o_187.ne_ty f_185 (by decide) k hk hy)
        refine K.RW.l rfl (K.OW.st [.int .i64 rk, .int .u32 rv] [.int .i64 rk, .int .u32 rv] rfl rfl rfl (by kernel_rfl) f_197 rfl (K.one_cells (by rfl)) rfl rfl ?_) 
        intro w_199 e_200 hs_201 b_202
        have c_203 := c_192.own e_200 (by omega)
        have z_204 := c_203.size
        have zz_205 := e_200.size
        have f_206 := f_195.chg e_200 (f_195.ne f_197 (by decide))
        have f_207 := f_196.chg e_200 (f_196.ne f_197 (by decide))
        have f_208 := b_191.chg e_200 (b_191.ne f_197 (by decide))
        have f_209 := f_198.chg e_200 (fun k hk hy => f_198.ne_ty f_197 (by decide) k hk hy)
        refine K.RW.nil ?_
        refine K.thn_normal ?_
        refine K.KW.ret ?_
        refine K.blk_ret ?_
        refine K.thn_ret ?_
        refine ⟨.inr rfl, rfl, (.tuple #[.agg #[.slice q nq cq, .slice s ns cs, .slice m_173 ys.length c_174], .agg #[.int .i64 rk, .int .u32 rv]]), K.resAt (rs := [.cell 4 42, .cell 5 52]) [.agg #[.slice q nq cq, .slice s ns cs, .slice m_173 ys.length c_174], .agg #[.int .i64 rk, .int .u32 rv]] rfl ⟨⟨_, rfl, K.lvN [.slice q nq cq, .slice s ns cs, .slice m_173 ys.length c_174] (by kernel_rfl) (by kernel_rfl) (K.cells (K.cl (f_208.cell rfl) (K.cl (f_208.cell rfl) (K.cl (f_208.cell rfl) K.cl0))))⟩, ⟨_, rfl, K.lvN [.int .i64 rk, .int .u32 rv] (by kernel_rfl) (by kernel_rfl) (K.cells (K.cl (b_202.cell rfl) (K.cl (b_202.cell rfl) K.cl0)))⟩, trivial⟩, ?_⟩
        exact .inl ⟨_, _, rfl, c_203, f_209⟩
      ·  -- as it was
        have c_210 := c_37.no ch_179
        have z_211 := c_210.size
        have zz_212 := ch_179.size
        have f_213 := f_40.no ch_179
        have f_214 := f_41.no ch_179
        have f_215 := f_42.no ch_179
        have f_216 := b_36.no ch_179
        refine K.RW.q rfl rfl (K.QR.k (v := .agg #[.slice q nq cq, .slice s ns cs, .slice m xs.length cm]) (by kernel_rfl)) ?_
        refine K.RW.q rfl rfl (K.QR.k (v := .agg #[.int .i64 rk, .int .u32 rv]) (by kernel_rfl)) ?_
        refine K.RW.l rfl (K.OW.st [.slice q nq cq, .slice s ns cs, .slice m xs.length cm] [.slice q nq cq, .slice s ns cs, .slice m xs.length cm] rfl rfl rfl (by kernel_rfl) f_215 rfl (K.one_cells (by rfl)) rfl rfl ?_) 
        intro w_217 e_218 hs_219 b_220
        have c_221 := c_210.own e_218 (by omega)
        have z_222 := c_221.size
        have zz_223 := e_218.size
        have f_224 := f_213.chg e_218 (by unfold K.Is; omega)
        have f_225 := f_214.chg e_218 (f_214.ne f_215 (by decide))
        have f_226 := f_216.chg e_218 (f_216.ne f_215 (by decide))
        refine K.RW.l rfl (K.OW.st [.int .i64 rk, .int .u32 rv] [.int .i64 rk, .int .u32 rv] rfl rfl rfl (by kernel_rfl) f_226 rfl (K.one_cells (by rfl)) rfl rfl ?_) 
        intro w_227 e_228 hs_229 b_230
        have c_231 := c_221.own e_228 (by omega)
        have z_232 := c_231.size
        have zz_233 := e_228.size
        have f_234 := f_224.chg e_228 (f_224.ne f_226 (by decide))
        have f_235 := f_225.chg e_228 (f_225.ne f_226 (by decide))
        have f_236 := b_220.chg e_228 (b_220.ne f_226 (by decide))
        refine K.RW.nil ?_
        refine K.thn_normal ?_
        refine K.KW.ret ?_
        refine K.blk_ret ?_
        refine K.thn_ret ?_
        refine ⟨.inr rfl, rfl, (.tuple #[.agg #[.slice q nq cq, .slice s ns cs, .slice m xs.length cm], .agg #[.int .i64 rk, .int .u32 rv]]), K.resAt (rs := [.cell 4 42, .cell 5 52]) [.agg #[.slice q nq cq, .slice s ns cs, .slice m xs.length cm], .agg #[.int .i64 rk, .int .u32 rv]] rfl ⟨⟨_, rfl, K.lvN [.slice q nq cq, .slice s ns cs, .slice m xs.length cm] (by kernel_rfl) (by kernel_rfl) (K.cells (K.cl (f_236.cell rfl) (K.cl (f_236.cell rfl) (K.cl (f_236.cell rfl) K.cl0))))⟩, ⟨_, rfl, K.lvN [.int .i64 rk, .int .u32 rv] (by kernel_rfl) (by kernel_rfl) (K.cells (K.cl (b_230.cell rfl) (K.cl (b_230.cell rfl) K.cl0)))⟩, trivial⟩, ?_⟩
        exact .inr ⟨by assumption, rfl, c_231⟩

def cRes (p : Int × Int) : List Value := [.int .i64 p.1, .int .u32 p.2]

set_option maxHeartbeats 1000000 in
set_option maxRecDepth 100000 in
theorem run3_ok (b : Nat) (w0 : World) (hb : K.Blk w0 b 45 [.int .i64 6, .int .u32 3, .int .u32 7, .int .i64 6, .int .u32 3, .int .u32 8, .int .i64 8, .int .u32 3, .int .u32 0]) :
    K.KC Try.prog 27 #[.agg #[.slice none 0 0, .slice none 0 0, .slice none 0 0], .slice (some ⟨b, 0, none⟩) 3 3] w0 (fun v w' => ∃ m' c' r c, v = .tuple #[.agg #[.slice none 0 0, .slice none 0 0, .slice m' 0 c'], .slice r 3 c] ∧ K.Chg K.No w0 w' ∧ K.Own w' w0.heap.size 52 2 r 3 c (([(1, 0), (3, 7), (1, 7)] : List (Int × Int)).flatMap cRes)) := by
  refine K.KC.mk (n := 31) Try.func27 rfl rfl [.agg #[.slice none 0 0, .slice none 0 0, .slice none 0 0], .slice (some ⟨b, 0, none⟩) 3 3] rfl rfl ?_
  refine K.KW.seq ?_
  -- region 0 model.go:124
  refine K.KW.region ?_
  refine K.RW.l rfl (K.OW.new (t := 42) rfl (fun r => .pointer (some ⟨r, 0, none⟩)) [.slice none 0 0, .slice none 0 0, .slice none 0 0] (by kernel_rfl) ?_) 
  intro w_1 r_2 hr_3 e_4 hs_5 b_6
  have c_7 := e_4
  have z_8 := c_7.size
  have zz_9 := e_4.size
  refine K.RW.l rfl (K.OW.new (t := 42) rfl (fun r => .pointer (some ⟨r, 0, none⟩)) [.slice none 0 0, .slice none 0 0, .slice none 0 0] (by kernel_rfl) ?_) 
  intro w_10 r_11 hr_12 e_13 hs_14 b_15
  have c_16 := c_7.no e_13
  have z_17 := c_16.size
  have zz_18 := e_13.size
  have f_19 := b_6.no e_13
  refine K.RW.q rfl rfl (K.QR.k (v := .slice none 0 0) (by kernel_rfl)) ?_
  refine K.RW.nil ?_
  refine K.thn_normal ?_
  refine K.KW.seq ?_
  -- region 1 model.go:125
  refine K.KW.region ?_
  refine K.RW.q rfl rfl (K.QR.k (v := .slice none 0 0) (by kernel_rfl)) ?_
  refine K.RW.nil ?_
  refine K.thn_normal ?_
  refine K.KW.seq ?_
  refine K.KW.seq ?_
  -- region 2 model.go:126
  refine K.KW.region ?_
  refine K.RW.q rfl rfl (K.QR.k (v := .slice (some ⟨b, 0, none⟩) 3 3) (by kernel_rfl)) ?_
  refine K.RW.q rfl rfl (K.QR.len (P := Try.prog) rfl rfl Try.underlying50) ?_
  refine K.RW.q rfl rfl (K.QR.k (v := .int .i64 0) (by kernel_rfl)) ?_
  refine K.RW.nil ?_
  refine K.thn_normal ?_
  refine K.KW.block ?_
  refine K.KW.unr 3 ?_
  refine K.Unr.succ ?_
  refine K.KW.seq ?_
  -- region 3 model.go:126
  refine K.KW.region ?_
  refine K.RW.q rfl rfl (K.QR.k (v := .bool true) (by kernel_rfl)) ?_
  refine K.RW.nil ?_
  refine K.thn_normal ?_
  refine K.KW.seq ?_
  refine K.KW.ifT rfl ?_
  refine K.KW.skip ?_
  refine K.thn_normal ?_
  refine K.KW.seq ?_
  refine K.KW.block ?_
  refine K.KW.seq ?_
  -- region 4 model.go:126
  refine K.KW.region ?_
  refine K.RW.q rfl rfl (K.QR.ix 0 3 rfl rfl rfl Try.underlying50 (by kernel_rfl) (by omega) (by first | (simp; done) | omega | (simp; omega))) ?_
  refine K.RW.q rfl rfl (K.QR.ldN [.int .i64 6, .int .u32 3, .int .u32 7] rfl rfl (by kernel_rfl) (by kernel_rfl) (K.cells (K.cl (c_16.cell (hb.cell rfl) id) (K.cl (c_16.cell (hb.cell rfl) id) (K.cl (c_16.cell (hb.cell rfl) id) K.cl0))))) ?_
  refine K.RW.l rfl (K.OW.new (t := 45) rfl (fun r => .pointer (some ⟨r, 0, none⟩)) [.int .i64 0, .int .u32 0, .int .u32 0] (by kernel_rfl) ?_) 
  intro w_20 r_21 hr_22 e_23 hs_24 b_25
  have c_26 := c_16.no e_23
  have z_27 := c_26.size
  have zz_28 := e_23.size
  have f_29 := f_19.no e_23
  have f_30 := b_15.no e_23
  refine K.RW.l rfl (K.OW.st [.int .i64 6, .int .u32 3, .int .u32 7] [.int .i64 6, .int .u32 3, .int .u32 7] rfl rfl rfl (by kernel_rfl) b_25 rfl (K.one_cells (by rfl)) rfl rfl ?_) 
  intro w_31 e_32 hs_33 b_34
  have c_35 := c_26.own e_32 (by omega)
  have z_36 := c_35.size
  have zz_37 := e_32.size
  have f_38 := f_29.chg e_32 (f_29.ne b_25 (by decide))
  have f_39 := f_30.chg e_32 (f_30.ne b_25 (by decide))
  refine K.RW.nil ?_
  refine K.thn_normal ?_
  refine K.KW.seq ?_
  -- region 5 model.go:127
  refine K.KW.region ?_
  refine K.RW.q rfl rfl (K.QR.ldN [.slice none 0 0, .slice none 0 0, .slice none 0 0] rfl rfl (by kernel_rfl) (by kernel_rfl) (K.cells (K.cl (f_38.cell rfl) (K.cl (f_38.cell rfl) (K.cl (f_38.cell rfl) K.cl0))))) ?_
  refine K.RW.q rfl rfl (K.QR.ldN [.int .i64 6, .int .u32 3, .int .u32 7] rfl rfl (by kernel_rfl) (by kernel_rfl) (K.cells (K.cl (b_34.cell rfl) (K.cl (b_34.cell rfl) (K.cl (b_34.cell rfl) K.cl0))))) ?_
  refine K.RW.l rfl (K.OW.call rfl [.agg #[.slice none 0 0, .slice none 0 0, .slice none 0 0], .agg #[.int .i64 6, .int .u32 3, .int .u32 7]] rfl rfl (by kernel_rfl) (apply6_ok _ _ _ _ _ _ _ _ ([] : List PairM) ([⟨3, 7⟩] : List PairM) 6 3 7 1 0 _ (by decide) (by decide) (rising_lit (by decide)) (K.RowE.zero _ _ _ _) (by decide)) ?_) 
  rintro _ w_42 (⟨m_40, c_41, rfl, ch_43, hx_44⟩ | ⟨hs_45, rfl, ch_46⟩)
  ·  -- a new row
    have c_47 := c_35.no ch_43
    have z_48 := c_47.size
    have zz_49 := ch_43.size
    have f_50 := f_38.no ch_43
    have f_51 := f_39.no ch_43
    have f_52 := b_34.no ch_43
    have o_53 := K.Own.mono (base' := w0.heap.size) hx_44 (by omega)
    refine K.RW.q rfl rfl (K.QR.k (v := .tuple #[.agg #[.slice none 0 0, .slice none 0 0, .slice m_40 (([⟨3, 7⟩] : List PairM).length) c_41], .agg #[.int .i64 1, .int .u32 0]]) (by kernel_rfl)) ?_
    refine K.RW.q rfl rfl (K.QR.k (v := .agg #[.slice none 0 0, .slice none 0 0, .slice m_40 (([⟨3, 7⟩] : List PairM).length) c_41]) (by kernel_rfl)) ?_
    refine K.RW.q rfl rfl (K.QR.k (v := .agg #[.int .i64 1, .int .u32 0]) (by kernel_rfl)) ?_
    refine K.RW.l rfl (K.OW.new (t := 42) rfl (fun r => .pointer (some ⟨r, 0, none⟩)) [.slice none 0 0, .slice none 0 0, .slice none 0 0] (by kernel_rfl) ?_) 
    intro w_54 r_55 hr_56 e_57 hs_58 b_59
    have c_60 := c_47.no e_57
    have z_61 := c_60.size
    have zz_62 := e_57.size
    have f_63 := f_50.no e_57
    have f_64 := f_51.no e_57
    have f_65 := f_52.no e_57
    have f_66 := o_53.no e_57
    refine K.RW.l rfl (K.OW.new (t := 52) rfl (fun r => .pointer (some ⟨r, 0, none⟩)) [.int .i64 0, .int .u32 0] (by kernel_rfl) ?_) 
    intro w_67 r_68 hr_69 e_70 hs_71 b_72
    have c_73 := c_60.no e_70
    have z_74 := c_73.size
    have zz_75 := e_70.size
    have f_76 := f_63.no e_70
    have f_77 := f_64.no e_70
    have f_78 := f_65.no e_70
    have f_79 := f_66.no e_70
    have f_80 := b_59.no e_70
    refine K.RW.l rfl (K.OW.st [.slice none 0 0, .slice none 0 0, .slice m_40 (([⟨3, 7⟩] : List PairM).length) c_41] [.slice none 0 0, .slice none 0 0, .slice m_40 (([⟨3, 7⟩] : List PairM).length) c_41] rfl rfl rfl (by kernel_rfl) f_80 rfl (K.one_cells (by rfl)) rfl rfl ?_) 
    intro w_81 e_82 hs_83 b_84
    have c_85 := c_73.own e_82 (by omega)
    have z_86 := c_85.size
    have zz_87 := e_82.size
    have f_88 := f_76.chg e_82 (by unfold K.Is; omega)
    have f_89 := f_77.chg e_82 (by unfold K.Is; omega)
    have f_90 := f_78.chg e_82 (f_78.ne f_80 (by decide))
    have f_91 := f_79.chg e_82 (fun k hk hy => f_79.ne_ty f_80 (by decide) k hk hy)
    have f_92 := b_72.chg e_82 (b_72.ne f_80 (by decide))
    refine K.RW.l rfl (K.OW.st [.int .i64 1, .int .u32 0] [.int .i64 1, .int .u32 0] rfl rfl rfl (by kernel_rfl) f_92 rfl (K.one_cells (by rfl)) rfl rfl ?_) 
    intro w_93 e_94 hs_95 b_96
    have c_97 := c_85.own e_94 (by omega)
    have z_98 := c_97.size
    have zz_99 := e_94.size
    have f_100 := f_88.chg e_94 (f_88.ne f_92 (by decide))
    have f_101 := f_89.chg e_94 (f_89.ne f_92 (by decide))
    have f_102 := f_90.chg e_94 (f_90.ne f_92 (by decide))
    have f_103 := f_91.chg e_94 (fun k hk hy => f_91.ne_ty f_92 (by decide) k hk hy)
    have f_104 := b_84.chg e_94 (b_84.ne f_92 (by decide))
    refine K.RW.nil ?_
    refine K.thn_normal ?_
    -- region 6 model.go:128
    refine K.KW.drawn (fun w => K.Chg K.No w0 w ∧ (w.cell? ⟨r_55, 0, none⟩ = some (.slice none 0 0)) ∧ (w.cell? ⟨r_55, 1, none⟩ = some (.slice none 0 0)) ∧ (w.cell? ⟨r_55, 2, none⟩ = some (.slice m_40 (([⟨3, 7⟩] : List PairM).length) c_41))) (by kernel_rfl) ?_
    intro w_105 e_106 hs_107
    have c_109 := c_97.no e_106
    have z_110 := c_109.size
    have zz_111 := e_106.size
    have f_112 := f_100.no e_106
    have f_113 := f_101.no e_106
    have f_114 := f_102.no e_106
    have f_115 := f_103.no e_106
    have f_116 := f_104.no e_106
    have f_117 := b_96.no e_106
    have hS_108 : (fun w => K.Chg K.No w0 w ∧ (w.cell? ⟨r_55, 0, none⟩ = some (.slice none 0 0)) ∧ (w.cell? ⟨r_55, 1, none⟩ = some (.slice none 0 0)) ∧ (w.cell? ⟨r_55, 2, none⟩ = some (.slice m_40 (([⟨3, 7⟩] : List PairM).length) c_41))) w_105 := ⟨c_109, ((f_116).cell rfl), ((f_116).cell rfl), ((f_116).cell rfl)⟩
    refine K.DW.q 0 (by kernel_rfl) rfl rfl (by kernel_rfl) rfl (fun w hS => K.QR.ldN [.slice none 0 0, .slice none 0 0, .slice m_40 (([⟨3, 7⟩] : List PairM).length) c_41] rfl rfl (by kernel_rfl) (by kernel_rfl) (K.cells (K.cl (hS.2.1) (K.cl (hS.2.2.1) (K.cl (hS.2.2.2) K.cl0))))) hS_108 ?_
    refine K.DW.q 1 (by kernel_rfl) rfl rfl (by kernel_rfl) rfl (fun w hS => K.QR.k (v := .slice none 0 0) (by kernel_rfl)) hS_108 ?_
    refine K.DW.l 2 rfl (by kernel_rfl) rfl (K.OW.q rfl (K.QR.ldN [.int .i64 1, .int .u32 0] rfl rfl (by kernel_rfl) (by kernel_rfl) (K.cells (K.cl (f_117.cell rfl) (K.cl (f_117.cell rfl) K.cl0)))) ?_)
    refine ⟨.inl hS_108, ?_⟩
    refine K.DW.l 3 rfl (by kernel_rfl) rfl (K.OW.bs rfl [(0, .agg #[.int .i64 1, .int .u32 0])] [.int .i64 1, .int .u32 0] rfl rfl (fun w => K.bs_run (P := Try.prog) w 47 52 1 _ _ Try.underlying47 (by kernel_rfl)) ?_)
    intro w_118 r_119 hr_120 e_121 hs_122 b_123
    have c_124 := c_109.no e_121
    have z_125 := c_124.size
    have zz_126 := e_121.size
    have f_127 := f_112.no e_121
    have f_128 := f_113.no e_121
    have f_129 := f_114.no e_121
    have f_130 := f_115.no e_121
    have f_131 := f_116.no e_121
    have f_132 := f_117.no e_121
    have hS_133 : (fun w => K.Chg K.No w0 w ∧ (w.cell? ⟨r_55, 0, none⟩ = some (.slice none 0 0)) ∧ (w.cell? ⟨r_55, 1, none⟩ = some (.slice none 0 0)) ∧ (w.cell? ⟨r_55, 2, none⟩ = some (.slice m_40 (([⟨3, 7⟩] : List PairM).length) c_41))) w_118 := ⟨c_124, ((f_131).cell rfl), ((f_131).cell rfl), ((f_131).cell rfl)⟩
    refine ⟨.inl hS_133, ?_⟩
    refine K.DW.l 4 rfl (by kernel_rfl) rfl (K.OW.app2 (P := Try.prog) (xs := ([]).flatMap cRes) (z := .agg #[.int .i64 0, .int .u32 0]) (size := 2) (bytes := 16) rfl [.int .i64 1, .int .u32 0] rfl rfl (K.Own.nil w_118 w0.heap.size 52 2) rfl Try.underlying47 (by kernel_rfl) rfl (by decide) (by rfl) (fun j u hj => (by rw [Nat.zero_add]; exact b_123.cell hj)) (K.one_cells (by rfl)) (by unfold maxLen; omega) (by omega) (by omega) ?_)
    intro a_134 cap_135 w_136 e_137 o_138 hk_139
    have e_137n := K.Chg.ow_none e_137
    have c_140 := c_124.no e_137n
    have z_141 := c_140.size
    have zz_142 := e_137n.size
    have f_143 := f_127.no e_137n
    have f_144 := f_128.no e_137n
    have f_145 := f_129.no e_137n
    have f_146 := f_130.no e_137n
    have f_147 := f_131.no e_137n
    have f_148 := f_132.no e_137n
    have o_138t := K.Own.snoc (c := cRes) (L := []) ((1, 0) : Int × Int) rfl o_138
    have ln_149 : (([] ++ [((1, 0) : Int × Int)])).length = 0 + 1 := rfl
    have hS_150 : (fun w => K.Chg K.No w0 w ∧ (w.cell? ⟨r_55, 0, none⟩ = some (.slice none 0 0)) ∧ (w.cell? ⟨r_55, 1, none⟩ = some (.slice none 0 0)) ∧ (w.cell? ⟨r_55, 2, none⟩ = some (.slice m_40 (([⟨3, 7⟩] : List PairM).length) c_41))) w_136 := ⟨c_140, ((f_147).cell rfl), ((f_147).cell rfl), ((f_147).cell rfl)⟩
    refine ⟨.inl hS_150, ?_⟩
    refine K.DW.l 5 rfl (by kernel_rfl) rfl (K.OW.st [.slice none 0 0, .slice none 0 0, .slice m_40 (([⟨3, 7⟩] : List PairM).length) c_41] [.slice none 0 0, .slice none 0 0, .slice m_40 (([⟨3, 7⟩] : List PairM).length) c_41] rfl rfl rfl (by kernel_rfl) f_143 rfl (K.one_cells (by rfl)) rfl rfl ?_)
    intro w_151 e_152 hs_153 b_154
    have c_155 := c_140.own e_152 (by omega)
    have z_156 := c_155.size
    have zz_157 := e_152.size
    have f_158 := f_144.chg e_152 (by unfold K.Is; omega)
    have f_159 := f_145.chg e_152 (f_145.ne f_143 (by decide))
    have f_160 := f_146.chg e_152 (fun k hk hy => f_146.ne_ty f_143 (by decide) k hk hy)
    have f_161 := f_147.chg e_152 (by unfold K.Is; omega)
    have f_162 := f_148.chg e_152 (f_148.ne f_143 (by decide))
    have f_163 := o_138t.chg e_152 (fun k hk hy => o_138t.ne_ty f_143 (by decide) k hk hy)
    have hS_164 : (fun w => K.Chg K.No w0 w ∧ (w.cell? ⟨r_55, 0, none⟩ = some (.slice none 0 0)) ∧ (w.cell? ⟨r_55, 1, none⟩ = some (.slice none 0 0)) ∧ (w.cell? ⟨r_55, 2, none⟩ = some (.slice m_40 (([⟨3, 7⟩] : List PairM).length) c_41))) w_151 := ⟨c_155, ((f_161).cell rfl), ((f_161).cell rfl), ((f_161).cell rfl)⟩
    refine ⟨.inl hS_164, ?_⟩
    refine K.DW.l 6 rfl (by kernel_rfl) rfl (K.OW.q rfl (K.QR.k (v := .slice a_134 (0 + 1) cap_135) (by kernel_rfl)) ?_)
    refine ⟨.inl hS_164, ?_⟩
    refine K.DW.done (by kernel_rfl) ?_
    refine K.blk_normal ?_
    refine K.thn_normal ?_
    -- region 7 model.go:126
    refine K.KW.region ?_
    refine K.RW.q rfl rfl (K.QR.k (v := .int .i64 1) (by kernel_rfl)) ?_
    refine K.RW.q rfl rfl (K.QR.k (v := .int .i64 1) (by kernel_rfl)) ?_
    refine K.RW.nil ?_
    refine K.thn_normal ?_
    refine K.Unr.succ ?_
    refine K.KW.seq ?_
    -- region 3 model.go:126
    refine K.KW.region ?_
    refine K.RW.q rfl rfl (K.QR.k (v := .bool true) (by kernel_rfl)) ?_
    refine K.RW.nil ?_
    refine K.thn_normal ?_
    refine K.KW.seq ?_
    refine K.KW.ifT rfl ?_
    refine K.KW.skip ?_
    refine K.thn_normal ?_
    refine K.KW.seq ?_
    refine K.KW.block ?_
    refine K.KW.seq ?_
    -- region 4 model.go:126
    refine K.KW.region ?_
    refine K.RW.q rfl rfl (K.QR.ix 3 3 rfl rfl rfl Try.underlying50 (by kernel_rfl) (by omega) (by first | (simp; done) | omega | (simp; omega))) ?_
    refine K.RW.q rfl rfl (K.QR.ldN [.int .i64 6, .int .u32 3, .int .u32 8] rfl rfl (by kernel_rfl) (by kernel_rfl) (K.cells (K.cl (c_155.cell (hb.cell rfl) id) (K.cl (c_155.cell (hb.cell rfl) id) (K.cl (c_155.cell (hb.cell rfl) id) K.cl0))))) ?_
    refine K.RW.l rfl (K.OW.new (t := 45) rfl (fun r => .pointer (some ⟨r, 0, none⟩)) [.int .i64 0, .int .u32 0, .int .u32 0] (by kernel_rfl) ?_) 
    intro w_165 r_166 hr_167 e_168 hs_169 b_170
    have c_171 := c_155.no e_168
    have z_172 := c_171.size
    have zz_173 := e_168.size
    have f_174 := b_154.no e_168
    have f_175 := f_158.no e_168
    have f_176 := f_159.no e_168
    have f_177 := f_160.no e_168
    have f_178 := f_161.no e_168
    have f_179 := f_162.no e_168
    have f_180 := f_163.no e_168
    refine K.RW.l rfl (K.OW.st [.int .i64 6, .int .u32 3, .int .u32 8] [.int .i64 6, .int .u32 3, .int .u32 8] rfl rfl rfl (by kernel_rfl) b_170 rfl (K.one_cells (by rfl)) rfl rfl ?_) 
    intro w_181 e_182 hs_183 b_184
    have c_185 := c_171.own e_182 (by omega)
    have z_186 := c_185.size
    have zz_187 := e_182.size
    have f_188 := f_174.chg e_182 (f_174.ne b_170 (by decide))
    have f_189 := f_175.chg e_182 (f_175.ne b_170 (by decide))
    have f_190 := f_176.chg e_182 (by unfold K.Is; omega)
    have f_191 := f_177.chg e_182 (fun k hk hy => f_177.ne_ty b_170 (by decide) k hk hy)
    have f_192 := f_178.chg e_182 (f_178.ne b_170 (by decide))
    have f_193 := f_179.chg e_182 (f_179.ne b_170 (by decide))
    have f_194 := f_180.chg e_182 (fun k hk hy => f_180.ne_ty b_170 (by decide) k hk hy)
    refine K.RW.nil ?_
    refine K.thn_normal ?_
    refine K.KW.seq ?_
    -- region 5 model.go:127
    refine K.KW.region ?_
    refine K.RW.q rfl rfl (K.QR.ldN [.slice none 0 0, .slice none 0 0, .slice m_40 (([⟨3, 7⟩] : List PairM).length) c_41] rfl rfl (by kernel_rfl) (by kernel_rfl) (K.cells (K.cl (f_188.cell rfl) (K.cl (f_188.cell rfl) (K.cl (f_188.cell rfl) K.cl0))))) ?_
    refine K.RW.q rfl rfl (K.QR.ldN [.int .i64 6, .int .u32 3, .int .u32 8] rfl rfl (by kernel_rfl) (by kernel_rfl) (K.cells (K.cl (b_184.cell rfl) (K.cl (b_184.cell rfl) (K.cl (b_184.cell rfl) K.cl0))))) ?_
    refine K.RW.l rfl (K.OW.call rfl [.agg #[.slice none 0 0, .slice none 0 0, .slice m_40 (([⟨3, 7⟩] : List PairM).length) c_41], .agg #[.int .i64 6, .int .u32 3, .int .u32 8]] rfl rfl (by kernel_rfl) (apply6_ok _ _ _ _ _ _ _ _ ([⟨3, 7⟩] : List PairM) ([⟨3, 7⟩] : List PairM) 6 3 8 3 7 _ (by decide) (by decide) (rising_lit (by decide)) (K.Own.rowE p0 f_191 rfl (fun _ => rfl)) (by decide)) ?_) 
    rintro _ w_197 (⟨m_195, c_196, rfl, ch_198, hx_199⟩ | ⟨hs_200, rfl, ch_201⟩)
    ·  -- a new row
      have c_202 := c_185.no ch_198
      have z_203 := c_202.size
      have zz_204 := ch_198.size
      have f_205 := f_188.no ch_198
      have f_206 := f_189.no ch_198
      have f_207 := f_190.no ch_198
      have f_208 := f_191.no ch_198
      have f_209 := f_192.no ch_198
      have f_210 := f_193.no ch_198
      have f_211 := f_194.no ch_198
      have f_212 := b_184.no ch_198
      have o_213 := K.Own.mono (base' := w0.heap.size) hx_199 (by omega)
      refine K.RW.q rfl rfl (K.QR.k (v := .tuple #[.agg #[.slice none 0 0, .slice none 0 0, .slice m_195 (([⟨3, 7⟩] : List PairM).length) c_196], .agg #[.int .i64 3, .int .u32 7]]) (by kernel_rfl)) ?_
      refine K.RW.q rfl rfl (K.QR.k (v := .agg #[.slice none 0 0, .slice none 0 0, .slice m_195 (([⟨3, 7⟩] : List PairM).length) c_196]) (by kernel_rfl)) ?_
      refine K.RW.q rfl rfl (K.QR.k (v := .agg #[.int .i64 3, .int .u32 7]) (by kernel_rfl)) ?_
      refine K.RW.l rfl (K.OW.new (t := 42) rfl (fun r => .pointer (some ⟨r, 0, none⟩)) [.slice none 0 0, .slice none 0 0, .slice none 0 0] (by kernel_rfl) ?_) 
      intro w_214 r_215 hr_216 e_217 hs_218 b_219
      have c_220 := c_202.no e_217
      have z_221 := c_220.size
      have zz_222 := e_217.size
      have f_223 := f_205.no e_217
      have f_224 := f_206.no e_217
      have f_225 := f_207.no e_217
      have f_226 := f_208.no e_217
      have f_227 := f_209.no e_217
      have f_228 := f_210.no e_217
      have f_229 := f_211.no e_217
      have f_230 := f_212.no e_217
      have f_231 := o_213.no e_217
      refine K.RW.l rfl (K.OW.new (t := 52) rfl (fun r => .pointer (some ⟨r, 0, none⟩)) [.int .i64 0, .int .u32 0] (by kernel_rfl) ?_) 
      intro w_232 r_233 hr_234 e_235 hs_236 b_237
      have c_238 := c_220.no e_235
      have z_239 := c_238.size
      have zz_240 := e_235.size
      have f_241 := f_223.no e_235
      have f_242 := f_224.no e_235
      have f_243 := f_225.no e_235
      have f_244 := f_226.no e_235
      have f_245 := f_227.no e_235
      have f_246 := f_228.no e_235
      have f_247 := f_229.no e_235
      have f_248 := f_230.no e_235
      have f_249 := f_231.no e_235
      have f_250 := b_219.no e_235
      have ap_251 : ∀ k, K.Ow a_134 k → ¬ k = r_233 := fun k hk he => absurd (f_229.lt k hk) (by omega)
      refine K.RW.l rfl (K.OW.st [.slice none 0 0, .slice none 0 0, .slice m_195 (([⟨3, 7⟩] : List PairM).length) c_196] [.slice none 0 0, .slice none 0 0, .slice m_195 (([⟨3, 7⟩] : List PairM).length) c_196] rfl rfl rfl (by kernel_rfl) f_250 rfl (K.one_cells (by rfl)) rfl rfl ?_) 
      intro w_252 e_253 hs_254 b_255
      have c_256 := c_238.own e_253 (by omega)
      have z_257 := c_256.size
      have zz_258 := e_253.size
      have f_259 := f_241.chg e_253 (by unfold K.Is; omega)
      have f_260 := f_242.chg e_253 (by unfold K.Is; omega)
      have f_261 := f_243.chg e_253 (f_243.ne f_250 (by decide))
      have f_262 := f_244.chg e_253 (fun k hk hy => f_244.ne_ty f_250 (by decide) k hk hy)
      have f_263 := f_245.chg e_253 (by unfold K.Is; omega)
      have f_264 := f_246.chg e_253 (f_246.ne f_250 (by decide))
      have f_265 := f_247.chg e_253 (fun k hk hy => f_247.ne_ty f_250 (by decide) k hk hy)
      have f_266 := f_248.chg e_253 (f_248.ne f_250 (by decide))
      have f_267 := f_249.chg e_253 (fun k hk hy => f_249.ne_ty f_250 (by decide) k hk hy)
      have f_268 := b_237.chg e_253 (b_237.ne f_250 (by decide))
      refine K.RW.l rfl (K.OW.st [.int .i64 3, .int .u32 7] [.int .i64 3, .int .u32 7] rfl rfl rfl (by kernel_rfl) f_268 rfl (K.one_cells (by rfl)) rfl rfl ?_) 
      intro w_269 e_270 hs_271 b_272
      have c_273 := c_256.own e_270 (by omega)
      have z_274 := c_273.size
      have zz_275 := e_270.size
      have f_276 := f_259.chg e_270 (f_259.ne f_268 (by decide))
      have f_277 := f_260.chg e_270 (f_260.ne f_268 (by decide))
      have f_278 := f_261.chg e_270 (f_261.ne f_268 (by decide))
      have f_279 := f_262.chg e_270 (fun k hk hy => f_262.ne_ty f_268 (by decide) k hk hy)
      have f_280 := f_263.chg e_270 (f_263.ne f_268 (by decide))
      have f_281 := f_264.chg e_270 (by unfold K.Is; omega)
      have f_282 := f_265.chg e_270 (fun k hk hy => ap_251 k hk hy)
      have f_283 := f_266.chg e_270 (f_266.ne f_268 (by decide))
      have f_284 := f_267.chg e_270 (fun k hk hy => f_267.ne_ty f_268 (by decide) k hk hy)
      have f_285 := b_255.chg e_270 (b_255.ne f_268 (by decide))
      refine K.RW.nil ?_
      refine K.thn_normal ?_
      -- region 6 model.go:128
      refine K.KW.drawn (fun w => K.Chg K.No w0 w ∧ (w.cell? ⟨r_215, 0, none⟩ = some (.slice none 0 0)) ∧ (w.cell? ⟨r_215, 1, none⟩ = some (.slice none 0 0)) ∧ (w.cell? ⟨r_215, 2, none⟩ = some (.slice m_195 (([⟨3, 7⟩] : List PairM).length) c_196))) (by kernel_rfl) ?_
      intro w_286 e_287 hs_288
      have c_290 := c_273.no e_287
      have z_291 := c_290.size
      have zz_292 := e_287.size
      have f_293 := f_276.no e_287
      have f_294 := f_277.no e_287
      have f_295 := f_278.no e_287
      have f_296 := f_279.no e_287
      have f_297 := f_280.no e_287
      have f_298 := f_281.no e_287
      have f_299 := f_282.no e_287
      have f_300 := f_283.no e_287
      have f_301 := f_284.no e_287
      have f_302 := f_285.no e_287
      have f_303 := b_272.no e_287
      have hS_289 : (fun w => K.Chg K.No w0 w ∧ (w.cell? ⟨r_215, 0, none⟩ = some (.slice none 0 0)) ∧ (w.cell? ⟨r_215, 1, none⟩ = some (.slice none 0 0)) ∧ (w.cell? ⟨r_215, 2, none⟩ = some (.slice m_195 (([⟨3, 7⟩] : List PairM).length) c_196))) w_286 := ⟨c_290, ((f_302).cell rfl), ((f_302).cell rfl), ((f_302).cell rfl)⟩
      refine K.DW.q 0 (by kernel_rfl) rfl rfl (by kernel_rfl) rfl (fun w hS => K.QR.ldN [.slice none 0 0, .slice none 0 0, .slice m_195 (([⟨3, 7⟩] : List PairM).length) c_196] rfl rfl (by kernel_rfl) (by kernel_rfl) (K.cells (K.cl (hS.2.1) (K.cl (hS.2.2.1) (K.cl (hS.2.2.2) K.cl0))))) hS_289 ?_
      refine K.DW.q 1 (by kernel_rfl) rfl rfl (by kernel_rfl) rfl (fun w hS => K.QR.k (v := .slice a_134 (0 + 1) cap_135) (by kernel_rfl)) hS_289 ?_
      refine K.DW.l 2 rfl (by kernel_rfl) rfl (K.OW.q rfl (K.QR.ldN [.int .i64 3, .int .u32 7] rfl rfl (by kernel_rfl) (by kernel_rfl) (K.cells (K.cl (f_303.cell rfl) (K.cl (f_303.cell rfl) K.cl0)))) ?_)
      refine ⟨.inl hS_289, ?_⟩
      refine K.DW.l 3 rfl (by kernel_rfl) rfl (K.OW.bs rfl [(0, .agg #[.int .i64 3, .int .u32 7])] [.int .i64 3, .int .u32 7] rfl rfl (fun w => K.bs_run (P := Try.prog) w 47 52 1 _ _ Try.underlying47 (by kernel_rfl)) ?_)
      intro w_304 r_305 hr_306 e_307 hs_308 b_309
      have c_310 := c_290.no e_307
      have z_311 := c_310.size
      have zz_312 := e_307.size
      have f_313 := f_293.no e_307
      have f_314 := f_294.no e_307
      have f_315 := f_295.no e_307
      have f_316 := f_296.no e_307
      have f_317 := f_297.no e_307
      have f_318 := f_298.no e_307
      have f_319 := f_299.no e_307
      have f_320 := f_300.no e_307
      have f_321 := f_301.no e_307
      have f_322 := f_302.no e_307
      have f_323 := f_303.no e_307
      have ap_324 : ∀ k, K.Ow a_134 k → ¬ k = r_305 := fun k hk he => absurd (f_299.lt k hk) (by omega)
      have hS_325 : (fun w => K.Chg K.No w0 w ∧ (w.cell? ⟨r_215, 0, none⟩ = some (.slice none 0 0)) ∧ (w.cell? ⟨r_215, 1, none⟩ = some (.slice none 0 0)) ∧ (w.cell? ⟨r_215, 2, none⟩ = some (.slice m_195 (([⟨3, 7⟩] : List PairM).length) c_196))) w_304 := ⟨c_310, ((f_322).cell rfl), ((f_322).cell rfl), ((f_322).cell rfl)⟩
      refine ⟨.inl hS_325, ?_⟩
      refine K.DW.l 4 rfl (by kernel_rfl) rfl (K.OW.app2 (P := Try.prog) (xs := (([] ++ [((1, 0) : Int × Int)])).flatMap cRes) (z := .agg #[.int .i64 0, .int .u32 0]) (size := 2) (bytes := 16) rfl [.int .i64 3, .int .u32 7] rfl rfl f_319 rfl Try.underlying47 (by kernel_rfl) rfl (by decide) (by rfl) (fun j u hj => (by rw [Nat.zero_add]; exact b_309.cell hj)) (K.one_cells (by rfl)) (by unfold maxLen; omega) (by omega) (by omega) ?_)
      intro a_326 cap_327 w_328 e_329 o_330 hk_331
      have c_332 := c_310.trans e_329 (fun i hi hy => absurd (f_319.base_le i hy) (by omega))
      have z_333 := c_332.size
      have zz_334 := e_329.size
      have f_335 := f_313.chg e_329 (fun hk => f_319.ne_ty f_313 (by decide) _ hk rfl)
      have f_336 := f_314.chg e_329 (fun hk => f_319.ne_ty f_314 (by decide) _ hk rfl)
      have f_337 := f_315.chg e_329 (fun hk => f_319.ne_ty f_315 (by decide) _ hk rfl)
      have f_338 := f_316.chg e_329 (fun k hk hy => f_316.ne_own f_319 (by decide) k hk hy)
      have f_339 := f_317.chg e_329 (fun hk => f_319.ne_ty f_317 (by decide) _ hk rfl)
      have f_341 := f_320.chg e_329 (fun hk => f_319.ne_ty f_320 (by decide) _ hk rfl)
      have f_342 := f_321.chg e_329 (fun k hk hy => f_321.ne_own f_319 (by decide) k hk hy)
      have f_343 := f_322.chg e_329 (fun hk => f_319.ne_ty f_322 (by decide) _ hk rfl)
      have f_344 := f_323.chg e_329 (fun hk => ap_251 _ hk rfl)
      have o_330t := K.Own.snoc (c := cRes) (L := ([] ++ [((1, 0) : Int × Int)])) ((3, 7) : Int × Int) rfl o_330
      have ln_345 : ((([] ++ [((1, 0) : Int × Int)]) ++ [((3, 7) : Int × Int)])).length = 0 + 1 + 1 := by rw [List.length_append, ln_149]; rfl
      have hS_346 : (fun w => K.Chg K.No w0 w ∧ (w.cell? ⟨r_215, 0, none⟩ = some (.slice none 0 0)) ∧ (w.cell? ⟨r_215, 1, none⟩ = some (.slice none 0 0)) ∧ (w.cell? ⟨r_215, 2, none⟩ = some (.slice m_195 (([⟨3, 7⟩] : List PairM).length) c_196))) w_328 := ⟨c_332, ((f_343).cell rfl), ((f_343).cell rfl), ((f_343).cell rfl)⟩
      refine ⟨.inl hS_346, ?_⟩
      refine K.DW.l 5 rfl (by kernel_rfl) rfl (K.OW.st [.slice none 0 0, .slice none 0 0, .slice m_195 (([⟨3, 7⟩] : List PairM).length) c_196] [.slice none 0 0, .slice none 0 0, .slice m_195 (([⟨3, 7⟩] : List PairM).length) c_196] rfl rfl rfl (by kernel_rfl) f_335 rfl (K.one_cells (by rfl)) rfl rfl ?_)
      intro w_347 e_348 hs_349 b_350
      have c_351 := c_332.own e_348 (by omega)
      have z_352 := c_351.size
      have zz_353 := e_348.size
      have f_354 := f_336.chg e_348 (by unfold K.Is; omega)
      have f_355 := f_337.chg e_348 (f_337.ne f_335 (by decide))
      have f_356 := f_338.chg e_348 (fun k hk hy => f_338.ne_ty f_335 (by decide) k hk hy)
      have f_357 := f_339.chg e_348 (by unfold K.Is; omega)
      have f_358 := f_341.chg e_348 (f_341.ne f_335 (by decide))
      have f_359 := f_342.chg e_348 (fun k hk hy => f_342.ne_ty f_335 (by decide) k hk hy)
      have f_360 := f_343.chg e_348 (by unfold K.Is; omega)
      have f_361 := f_344.chg e_348 (f_344.ne f_335 (by decide))
      have f_362 := o_330t.chg e_348 (fun k hk hy => o_330t.ne_ty f_335 (by decide) k hk hy)
      have hS_363 : (fun w => K.Chg K.No w0 w ∧ (w.cell? ⟨r_215, 0, none⟩ = some (.slice none 0 0)) ∧ (w.cell? ⟨r_215, 1, none⟩ = some (.slice none 0 0)) ∧ (w.cell? ⟨r_215, 2, none⟩ = some (.slice m_195 (([⟨3, 7⟩] : List PairM).length) c_196))) w_347 := ⟨c_351, ((f_360).cell rfl), ((f_360).cell rfl), ((f_360).cell rfl)⟩
      refine ⟨.inl hS_363, ?_⟩
      refine K.DW.l 6 rfl (by kernel_rfl) rfl (K.OW.q rfl (K.QR.k (v := .slice a_326 (0 + 1 + 1) cap_327) (by kernel_rfl)) ?_)
      refine ⟨.inl hS_363, ?_⟩
      refine K.DW.done (by kernel_rfl) ?_
      refine K.blk_normal ?_
      refine K.thn_normal ?_
      -- region 7 model.go:126
      refine K.KW.region ?_
      refine K.RW.q rfl rfl (K.QR.k (v := .int .i64 2) (by kernel_rfl)) ?_
      refine K.RW.q rfl rfl (K.QR.k (v := .int .i64 2) (by kernel_rfl)) ?_
      refine K.RW.nil ?_
      refine K.thn_normal ?_
      refine K.Unr.succ ?_
      refine K.KW.seq ?_
      -- region 3 model.go:126
      refine K.KW.region ?_
      refine K.RW.q rfl rfl (K.QR.k (v := .bool true) (by kernel_rfl)) ?_
      refine K.RW.nil ?_
      refine K.thn_normal ?_
      refine K.KW.seq ?_
      refine K.KW.ifT rfl ?_
      refine K.KW.skip ?_
      refine K.thn_normal ?_
      refine K.KW.seq ?_
      refine K.KW.block ?_
      refine K.KW.seq ?_
      -- region 4 model.go:126
      refine K.KW.region ?_
      refine K.RW.q rfl rfl (K.QR.ix 6 3 rfl rfl rfl Try.underlying50 (by kernel_rfl) (by omega) (by first | (simp; done) | omega | (simp; omega))) ?_
      refine K.RW.q rfl rfl (K.QR.ldN [.int .i64 8, .int .u32 3, .int .u32 0] rfl rfl (by kernel_rfl) (by kernel_rfl) (K.cells (K.cl (c_351.cell (hb.cell rfl) id) (K.cl (c_351.cell (hb.cell rfl) id) (K.cl (c_351.cell (hb.cell rfl) id) K.cl0))))) ?_
      refine K.RW.l rfl (K.OW.new (t := 45) rfl (fun r => .pointer (some ⟨r, 0, none⟩)) [.int .i64 0, .int .u32 0, .int .u32 0] (by kernel_rfl) ?_) 
      intro w_364 r_365 hr_366 e_367 hs_368 b_369
      have c_370 := c_351.no e_367
      have z_371 := c_370.size
      have zz_372 := e_367.size
      have f_373 := b_350.no e_367
      have f_374 := f_354.no e_367
      have f_375 := f_355.no e_367
      have f_376 := f_356.no e_367
      have f_377 := f_357.no e_367
      have f_378 := f_358.no e_367
      have f_379 := f_359.no e_367
      have f_380 := f_360.no e_367
      have f_381 := f_361.no e_367
      have f_382 := f_362.no e_367
      refine K.RW.l rfl (K.OW.st [.int .i64 8, .int .u32 3, .int .u32 0] [.int .i64 8, .int .u32 3, .int .u32 0] rfl rfl rfl (by kernel_rfl) b_369 rfl (K.one_cells (by rfl)) rfl rfl ?_) 
      intro w_383 e_384 hs_385 b_386
      have c_387 := c_370.own e_384 (by omega)
      have z_388 := c_387.size
      have zz_389 := e_384.size
      have f_390 := f_373.chg e_384 (f_373.ne b_369 (by decide))
      have f_391 := f_374.chg e_384 (f_374.ne b_369 (by decide))
      have f_392 := f_375.chg e_384 (by unfold K.Is; omega)
      have f_393 := f_376.chg e_384 (fun k hk hy => f_376.ne_ty b_369 (by decide) k hk hy)
      have f_394 := f_377.chg e_384 (f_377.ne b_369 (by decide))
      have f_395 := f_378.chg e_384 (by unfold K.Is; omega)
      have f_396 := f_379.chg e_384 (fun k hk hy => f_379.ne_ty b_369 (by decide) k hk hy)
      have f_397 := f_380.chg e_384 (f_380.ne b_369 (by decide))
      have f_398 := f_381.chg e_384 (f_381.ne b_369 (by decide))
      have f_399 := f_382.chg e_384 (fun k hk hy => f_382.ne_ty b_369 (by decide) k hk hy)
      refine K.RW.nil ?_
      refine K.thn_normal ?_
      refine K.KW.seq ?_
      -- region 5 model.go:127
      refine K.KW.region ?_
      refine K.RW.q rfl rfl (K.QR.ldN [.slice none 0 0, .slice none 0 0, .slice m_195 (([⟨3, 7⟩] : List PairM).length) c_196] rfl rfl (by kernel_rfl) (by kernel_rfl) (K.cells (K.cl (f_390.cell rfl) (K.cl (f_390.cell rfl) (K.cl (f_390.cell rfl) K.cl0))))) ?_
      refine K.RW.q rfl rfl (K.QR.ldN [.int .i64 8, .int .u32 3, .int .u32 0] rfl rfl (by kernel_rfl) (by kernel_rfl) (K.cells (K.cl (b_386.cell rfl) (K.cl (b_386.cell rfl) (K.cl (b_386.cell rfl) K.cl0))))) ?_
      refine K.RW.l rfl (K.OW.call rfl [.agg #[.slice none 0 0, .slice none 0 0, .slice m_195 (([⟨3, 7⟩] : List PairM).length) c_196], .agg #[.int .i64 8, .int .u32 3, .int .u32 0]] rfl rfl (by kernel_rfl) (apply6_ok _ _ _ _ _ _ _ _ ([⟨3, 7⟩] : List PairM) ([] : List PairM) 8 3 0 1 7 _ (by decide) (by decide) (rising_lit (by decide)) (K.Own.rowE p0 f_396 rfl (fun _ => rfl)) (by decide)) ?_) 
      rintro _ w_402 (⟨m_400, c_401, rfl, ch_403, hx_404⟩ | ⟨hs_405, rfl, ch_406⟩)
      ·  -- a new row
        have c_407 := c_387.no ch_403
        have z_408 := c_407.size
        have zz_409 := ch_403.size
        have f_410 := f_390.no ch_403
        have f_411 := f_391.no ch_403
        have f_412 := f_392.no ch_403
        have f_413 := f_393.no ch_403
        have f_414 := f_394.no ch_403
        have f_415 := f_395.no ch_403
        have f_416 := f_396.no ch_403
        have f_417 := f_397.no ch_403
        have f_418 := f_398.no ch_403
        have f_419 := f_399.no ch_403
        have f_420 := b_386.no ch_403
        have o_421 := K.Own.mono (base' := w0.heap.size) hx_404 (by omega)
        refine K.RW.q rfl rfl (K.QR.k (v := .tuple #[.agg #[.slice none 0 0, .slice none 0 0, .slice m_400 (([] : List PairM).length) c_401], .agg #[.int .i64 1, .int .u32 7]]) (by kernel_rfl)) ?_
        refine K.RW.q rfl rfl (K.QR.k (v := .agg #[.slice none 0 0, .slice none 0 0, .slice m_400 (([] : List PairM).length) c_401]) (by kernel_rfl)) ?_
        refine K.RW.q rfl rfl (K.QR.k (v := .agg #[.int .i64 1, .int .u32 7]) (by kernel_rfl)) ?_
        refine K.RW.l rfl (K.OW.new (t := 42) rfl (fun r => .pointer (some ⟨r, 0, none⟩)) [.slice none 0 0, .slice none 0 0, .slice none 0 0] (by kernel_rfl) ?_) 
        intro w_422 r_423 hr_424 e_425 hs_426 b_427
        have c_428 := c_407.no e_425
        have z_429 := c_428.size
        have zz_430 := e_425.size
        have f_431 := f_410.no e_425
        have f_432 := f_411.no e_425
        have f_433 := f_412.no e_425
        have f_434 := f_413.no e_425
        have f_435 := f_414.no e_425
        have f_436 := f_415.no e_425
        have f_437 := f_416.no e_425
        have f_438 := f_417.no e_425
        have f_439 := f_418.no e_425
        have f_440 := f_419.no e_425
        have f_441 := f_420.no e_425
        have f_442 := o_421.no e_425
        refine K.RW.l rfl (K.OW.new (t := 52) rfl (fun r => .pointer (some ⟨r, 0, none⟩)) [.int .i64 0, .int .u32 0] (by kernel_rfl) ?_) 
        intro w_443 r_444 hr_445 e_446 hs_447 b_448
        have c_449 := c_428.no e_446
        have z_450 := c_449.size
        have zz_451 := e_446.size
        have f_452 := f_431.no e_446
        have f_453 := f_432.no e_446
        have f_454 := f_433.no e_446
        have f_455 := f_434.no e_446
        have f_456 := f_435.no e_446
        have f_457 := f_436.no e_446
        have f_458 := f_437.no e_446
        have f_459 := f_438.no e_446
        have f_460 := f_439.no e_446
        have f_461 := f_440.no e_446
        have f_462 := f_441.no e_446
        have f_463 := f_442.no e_446
        have f_464 := b_427.no e_446
        have ap_465 : ∀ k, K.Ow a_326 k → ¬ k = r_444 := fun k hk he => absurd (f_440.lt k hk) (by omega)
        refine K.RW.l rfl (K.OW.st [.slice none 0 0, .slice none 0 0, .slice m_400 (([] : List PairM).length) c_401] [.slice none 0 0, .slice none 0 0, .slice m_400 (([] : List PairM).length) c_401] rfl rfl rfl (by kernel_rfl) f_464 rfl (K.one_cells (by rfl)) rfl rfl ?_) 
        intro w_466 e_467 hs_468 b_469
        have c_470 := c_449.own e_467 (by omega)
        have z_471 := c_470.size
        have zz_472 := e_467.size
        have f_473 := f_452.chg e_467 (by unfold K.Is; omega)
        have f_474 := f_453.chg e_467 (by unfold K.Is; omega)
        have f_475 := f_454.chg e_467 (f_454.ne f_464 (by decide))
        have f_476 := f_455.chg e_467 (fun k hk hy => f_455.ne_ty f_464 (by decide) k hk hy)
        have f_477 := f_456.chg e_467 (by unfold K.Is; omega)
        have f_478 := f_457.chg e_467 (f_457.ne f_464 (by decide))
        have f_479 := f_458.chg e_467 (fun k hk hy => f_458.ne_ty f_464 (by decide) k hk hy)
        have f_480 := f_459.chg e_467 (by unfold K.Is; omega)
        have f_481 := f_460.chg e_467 (f_460.ne f_464 (by decide))
        have f_482 := f_461.chg e_467 (fun k hk hy => f_461.ne_ty f_464 (by decide) k hk hy)
        have f_483 := f_462.chg e_467 (f_462.ne f_464 (by decide))
        have f_484 := f_463.chg e_467 (fun k hk hy => f_463.ne_ty f_464 (by decide) k hk hy)
        have f_485 := b_448.chg e_467 (b_448.ne f_464 (by decide))
        refine K.RW.l rfl (K.OW.st [.int .i64 1, .int .u32 7] [.int .i64 1, .int .u32 7] rfl rfl rfl (by kernel_rfl) f_485 rfl (K.one_cells (by rfl)) rfl rfl ?_) 
        intro w_486 e_487 hs_488 b_489
        have c_490 := c_470.own e_487 (by omega)
        have z_491 := c_490.size
        have zz_492 := e_487.size
        have f_493 := f_473.chg e_487 (f_473.ne f_485 (by decide))
        have f_494 := f_474.chg e_487 (f_474.ne f_485 (by decide))
        have f_495 := f_475.chg e_487 (f_475.ne f_485 (by decide))
        have f_496 := f_476.chg e_487 (fun k hk hy => f_476.ne_ty f_485 (by decide) k hk hy)
        have f_497 := f_477.chg e_487 (f_477.ne f_485 (by decide))
        have f_498 := f_478.chg e_487 (f_478.ne f_485 (by decide))
        have f_499 := f_479.chg e_487 (fun k hk hy => f_479.ne_ty f_485 (by decide) k hk hy)
        have f_500 := f_480.chg e_487 (f_480.ne f_485 (by decide))
        have f_501 := f_481.chg e_487 (by unfold K.Is; omega)
        have f_502 := f_482.chg e_487 (fun k hk hy => ap_465 k hk hy)
        have f_503 := f_483.chg e_487 (f_483.ne f_485 (by decide))
        have f_504 := f_484.chg e_487 (fun k hk hy => f_484.ne_ty f_485 (by decide) k hk hy)
        have f_505 := b_469.chg e_487 (b_469.ne f_485 (by decide))
        refine K.RW.nil ?_
        refine K.thn_normal ?_
        -- region 6 model.go:128
        refine K.KW.drawn (fun w => K.Chg K.No w0 w ∧ (w.cell? ⟨r_423, 0, none⟩ = some (.slice none 0 0)) ∧ (w.cell? ⟨r_423, 1, none⟩ = some (.slice none 0 0)) ∧ (w.cell? ⟨r_423, 2, none⟩ = some (.slice m_400 (([] : List PairM).length) c_401))) (by kernel_rfl) ?_
        intro w_506 e_507 hs_508
        have c_510 := c_490.no e_507
        have z_511 := c_510.size
        have zz_512 := e_507.size
        have f_513 := f_493.no e_507
        have f_514 := f_494.no e_507
        have f_515 := f_495.no e_507
        have f_516 := f_496.no e_507
        have f_517 := f_497.no e_507
        have f_518 := f_498.no e_507
        have f_519 := f_499.no e_507
        have f_520 := f_500.no e_507
        have f_521 := f_501.no e_507
        have f_522 := f_502.no e_507
        have f_523 := f_503.no e_507
        have f_524 := f_504.no e_507
        have f_525 := f_505.no e_507
        have f_526 := b_489.no e_507
        have hS_509 : (fun w => K.Chg K.No w0 w ∧ (w.cell? ⟨r_423, 0, none⟩ = some (.slice none 0 0)) ∧ (w.cell? ⟨r_423, 1, none⟩ = some (.slice none 0 0)) ∧ (w.cell? ⟨r_423, 2, none⟩ = some (.slice m_400 (([] : List PairM).length) c_401))) w_506 := ⟨c_510, ((f_525).cell rfl), ((f_525).cell rfl), ((f_525).cell rfl)⟩
        refine K.DW.q 0 (by kernel_rfl) rfl rfl (by kernel_rfl) rfl (fun w hS => K.QR.ldN [.slice none 0 0, .slice none 0 0, .slice m_400 (([] : List PairM).length) c_401] rfl rfl (by kernel_rfl) (by kernel_rfl) (K.cells (K.cl (hS.2.1) (K.cl (hS.2.2.1) (K.cl (hS.2.2.2) K.cl0))))) hS_509 ?_
        refine K.DW.q 1 (by kernel_rfl) rfl rfl (by kernel_rfl) rfl (fun w hS => K.QR.k (v := .slice a_326 (0 + 1 + 1) cap_327) (by kernel_rfl)) hS_509 ?_
        refine K.DW.l 2 rfl (by kernel_rfl) rfl (K.OW.q rfl (K.QR.ldN [.int .i64 1, .int .u32 7] rfl rfl (by kernel_rfl) (by kernel_rfl) (K.cells (K.cl (f_526.cell rfl) (K.cl (f_526.cell rfl) K.cl0)))) ?_)
        refine ⟨.inl hS_509, ?_⟩
        refine K.DW.l 3 rfl (by kernel_rfl) rfl (K.OW.bs rfl [(0, .agg #[.int .i64 1, .int .u32 7])] [.int .i64 1, .int .u32 7] rfl rfl (fun w => K.bs_run (P := Try.prog) w 47 52 1 _ _ Try.underlying47 (by kernel_rfl)) ?_)
        intro w_527 r_528 hr_529 e_530 hs_531 b_532
        have c_533 := c_510.no e_530
        have z_534 := c_533.size
        have zz_535 := e_530.size
        have f_536 := f_513.no e_530
        have f_537 := f_514.no e_530
        have f_538 := f_515.no e_530
        have f_539 := f_516.no e_530
        have f_540 := f_517.no e_530
        have f_541 := f_518.no e_530
        have f_542 := f_519.no e_530
        have f_543 := f_520.no e_530
        have f_544 := f_521.no e_530
        have f_545 := f_522.no e_530
        have f_546 := f_523.no e_530
        have f_547 := f_524.no e_530
        have f_548 := f_525.no e_530
        have f_549 := f_526.no e_530
        have ap_550 : ∀ k, K.Ow a_326 k → ¬ k = r_528 := fun k hk he => absurd (f_522.lt k hk) (by omega)
        have hS_551 : (fun w => K.Chg K.No w0 w ∧ (w.cell? ⟨r_423, 0, none⟩ = some (.slice none 0 0)) ∧ (w.cell? ⟨r_423, 1, none⟩ = some (.slice none 0 0)) ∧ (w.cell? ⟨r_423, 2, none⟩ = some (.slice m_400 (([] : List PairM).length) c_401))) w_527 := ⟨c_533, ((f_548).cell rfl), ((f_548).cell rfl), ((f_548).cell rfl)⟩
        refine ⟨.inl hS_551, ?_⟩
        refine K.DW.l 4 rfl (by kernel_rfl) rfl (K.OW.app2 (P := Try.prog) (xs := ((([] ++ [((1, 0) : Int × Int)]) ++ [((3, 7) : Int × Int)])).flatMap cRes) (z := .agg #[.int .i64 0, .int .u32 0]) (size := 2) (bytes := 16) rfl [.int .i64 1, .int .u32 7] rfl rfl f_545 rfl Try.underlying47 (by kernel_rfl) rfl (by decide) (by rfl) (fun j u hj => (by rw [Nat.zero_add]; exact b_532.cell hj)) (K.one_cells (by rfl)) (by unfold maxLen; omega) (by omega) (by omega) ?_)
        intro a_552 cap_553 w_554 e_555 o_556 hk_557
        have c_558 := c_533.trans e_555 (fun i hi hy => absurd (f_545.base_le i hy) (by omega))
        have z_559 := c_558.size
        have zz_560 := e_555.size
        have f_561 := f_536.chg e_555 (fun hk => f_545.ne_ty f_536 (by decide) _ hk rfl)
        have f_562 := f_537.chg e_555 (fun hk => f_545.ne_ty f_537 (by decide) _ hk rfl)
        have f_563 := f_538.chg e_555 (fun hk => f_545.ne_ty f_538 (by decide) _ hk rfl)
        have f_564 := f_539.chg e_555 (fun k hk hy => f_539.ne_own f_545 (by decide) k hk hy)
        have f_565 := f_540.chg e_555 (fun hk => f_545.ne_ty f_540 (by decide) _ hk rfl)
        have f_566 := f_541.chg e_555 (fun hk => f_545.ne_ty f_541 (by decide) _ hk rfl)
        have f_567 := f_542.chg e_555 (fun k hk hy => f_542.ne_own f_545 (by decide) k hk hy)
        have f_568 := f_543.chg e_555 (fun hk => f_545.ne_ty f_543 (by decide) _ hk rfl)
        have f_570 := f_546.chg e_555 (fun hk => f_545.ne_ty f_546 (by decide) _ hk rfl)
        have f_571 := f_547.chg e_555 (fun k hk hy => f_547.ne_own f_545 (by decide) k hk hy)
        have f_572 := f_548.chg e_555 (fun hk => f_545.ne_ty f_548 (by decide) _ hk rfl)
        have f_573 := f_549.chg e_555 (fun hk => ap_465 _ hk rfl)
        have o_556t := K.Own.snoc (c := cRes) (L := (([] ++ [((1, 0) : Int × Int)]) ++ [((3, 7) : Int × Int)])) ((1, 7) : Int × Int) rfl o_556
        have ln_574 : (((([] ++ [((1, 0) : Int × Int)]) ++ [((3, 7) : Int × Int)]) ++ [((1, 7) : Int × Int)])).length = 0 + 1 + 1 + 1 := by rw [List.length_append, ln_345]; rfl
        have hS_575 : (fun w => K.Chg K.No w0 w ∧ (w.cell? ⟨r_423, 0, none⟩ = some (.slice none 0 0)) ∧ (w.cell? ⟨r_423, 1, none⟩ = some (.slice none 0 0)) ∧ (w.cell? ⟨r_423, 2, none⟩ = some (.slice m_400 (([] : List PairM).length) c_401))) w_554 := ⟨c_558, ((f_572).cell rfl), ((f_572).cell rfl), ((f_572).cell rfl)⟩
        refine ⟨.inl hS_575, ?_⟩
        refine K.DW.l 5 rfl (by kernel_rfl) rfl (K.OW.st [.slice none 0 0, .slice none 0 0, .slice m_400 (([] : List PairM).length) c_401] [.slice none 0 0, .slice none 0 0, .slice m_400 (([] : List PairM).length) c_401] rfl rfl rfl (by kernel_rfl) f_561 rfl (K.one_cells (by rfl)) rfl rfl ?_)
        intro w_576 e_577 hs_578 b_579
        have c_580 := c_558.own e_577 (by omega)
        have z_581 := c_580.size
        have zz_582 := e_577.size
        have f_583 := f_562.chg e_577 (by unfold K.Is; omega)
        have f_584 := f_563.chg e_577 (f_563.ne f_561 (by decide))
        have f_585 := f_564.chg e_577 (fun k hk hy => f_564.ne_ty f_561 (by decide) k hk hy)
        have f_586 := f_565.chg e_577 (by unfold K.Is; omega)
        have f_587 := f_566.chg e_577 (f_566.ne f_561 (by decide))
        have f_588 := f_567.chg e_577 (fun k hk hy => f_567.ne_ty f_561 (by decide) k hk hy)
        have f_589 := f_568.chg e_577 (by unfold K.Is; omega)
        have f_590 := f_570.chg e_577 (f_570.ne f_561 (by decide))
        have f_591 := f_571.chg e_577 (fun k hk hy => f_571.ne_ty f_561 (by decide) k hk hy)
        have f_592 := f_572.chg e_577 (by unfold K.Is; omega)
        have f_593 := f_573.chg e_577 (f_573.ne f_561 (by decide))
        have f_594 := o_556t.chg e_577 (fun k hk hy => o_556t.ne_ty f_561 (by decide) k hk hy)
        have hS_595 : (fun w => K.Chg K.No w0 w ∧ (w.cell? ⟨r_423, 0, none⟩ = some (.slice none 0 0)) ∧ (w.cell? ⟨r_423, 1, none⟩ = some (.slice none 0 0)) ∧ (w.cell? ⟨r_423, 2, none⟩ = some (.slice m_400 (([] : List PairM).length) c_401))) w_576 := ⟨c_580, ((f_592).cell rfl), ((f_592).cell rfl), ((f_592).cell rfl)⟩
        refine ⟨.inl hS_595, ?_⟩
        refine K.DW.l 6 rfl (by kernel_rfl) rfl (K.OW.q rfl (K.QR.k (v := .slice a_552 (0 + 1 + 1 + 1) cap_553) (by kernel_rfl)) ?_)
        refine ⟨.inl hS_595, ?_⟩
        refine K.DW.done (by kernel_rfl) ?_
        refine K.blk_normal ?_
        refine K.thn_normal ?_
        -- region 7 model.go:126
        refine K.KW.region ?_
        refine K.RW.q rfl rfl (K.QR.k (v := .int .i64 3) (by kernel_rfl)) ?_
        refine K.RW.q rfl rfl (K.QR.k (v := .int .i64 3) (by kernel_rfl)) ?_
        refine K.RW.nil ?_
        refine K.thn_normal ?_
        refine K.Unr.zero ?_
        refine K.KW.seq ?_
        -- region 3 model.go:126
        refine K.KW.region ?_
        refine K.RW.q rfl rfl (K.QR.k (v := .bool false) (by kernel_rfl)) ?_
        refine K.RW.nil ?_
        refine K.thn_normal ?_
        refine K.KW.seq ?_
        refine K.KW.ifF rfl ?_
        refine K.KW.exit ?_
        refine K.thn_exit ?_
        refine K.thn_exit ?_
        refine K.blk_hit ?_
        refine K.thn_normal ?_
        refine K.KW.seq ?_
        -- region 8 model.go:130
        refine K.KW.region ?_
        refine K.RW.q rfl rfl (K.QR.ldN [.slice none 0 0, .slice none 0 0, .slice m_400 (([] : List PairM).length) c_401] rfl rfl (by kernel_rfl) (by kernel_rfl) (K.cells (K.cl (b_579.cell rfl) (K.cl (b_579.cell rfl) (K.cl (b_579.cell rfl) K.cl0))))) ?_
        refine K.RW.q rfl rfl (K.QR.k (v := .slice a_552 (0 + 1 + 1 + 1) cap_553) (by kernel_rfl)) ?_
        refine K.RW.l rfl (K.OW.st [.slice none 0 0, .slice none 0 0, .slice m_400 (([] : List PairM).length) c_401] [.slice none 0 0, .slice none 0 0, .slice m_400 (([] : List PairM).length) c_401] rfl rfl rfl (by kernel_rfl) f_583 rfl (K.one_cells (by rfl)) rfl rfl ?_) 
        intro w_596 e_597 hs_598 b_599
        have c_600 := c_580.own e_597 (by omega)
        have z_601 := c_600.size
        have zz_602 := e_597.size
        have f_603 := b_579.chg e_597 (by unfold K.Is; omega)
        have f_604 := f_584.chg e_597 (f_584.ne f_583 (by decide))
        have f_605 := f_585.chg e_597 (fun k hk hy => f_585.ne_ty f_583 (by decide) k hk hy)
        have f_606 := f_586.chg e_597 (by unfold K.Is; omega)
        have f_607 := f_587.chg e_597 (f_587.ne f_583 (by decide))
        have f_608 := f_588.chg e_597 (fun k hk hy => f_588.ne_ty f_583 (by decide) k hk hy)
        have f_609 := f_589.chg e_597 (by unfold K.Is; omega)
        have f_610 := f_590.chg e_597 (f_590.ne f_583 (by decide))
        have f_611 := f_591.chg e_597 (fun k hk hy => f_591.ne_ty f_583 (by decide) k hk hy)
        have f_612 := f_592.chg e_597 (by unfold K.Is; omega)
        have f_613 := f_593.chg e_597 (f_593.ne f_583 (by decide))
        have f_614 := f_594.chg e_597 (fun k hk hy => f_594.ne_ty f_583 (by decide) k hk hy)
        refine K.RW.q rfl rfl (K.QR.k (v := .slice a_552 (0 + 1 + 1 + 1) cap_553) (by kernel_rfl)) ?_
        refine K.RW.nil ?_
        refine K.thn_normal ?_
        refine K.KW.ret ?_
        refine ⟨.inr rfl, rfl, (.tuple #[.agg #[.slice none 0 0, .slice none 0 0, .slice m_400 (([] : List PairM).length) c_401], .slice a_552 (0 + 1 + 1 + 1) cap_553]), K.resAt (rs := [.cell 4 42, .tmp 5]) [.agg #[.slice none 0 0, .slice none 0 0, .slice m_400 (([] : List PairM).length) c_401], .slice a_552 (0 + 1 + 1 + 1) cap_553] rfl ⟨⟨_, rfl, K.lvN [.slice none 0 0, .slice none 0 0, .slice m_400 (([] : List PairM).length) c_401] (by kernel_rfl) (by kernel_rfl) (K.cells (K.cl (b_599.cell rfl) (K.cl (b_599.cell rfl) (K.cl (b_599.cell rfl) K.cl0))))⟩, rfl, trivial⟩, ?_⟩
        exact ⟨_, _, _, _, rfl, c_600, f_614⟩
      ·  -- as it was
        exact absurd hs_405 (by decide)
    ·  -- as it was
      have c_615 := c_185.no ch_201
      have z_616 := c_615.size
      have zz_617 := ch_201.size
      have f_618 := f_188.no ch_201
      have f_619 := f_189.no ch_201
      have f_620 := f_190.no ch_201
      have f_621 := f_191.no ch_201
      have f_622 := f_192.no ch_201
      have f_623 := f_193.no ch_201
      have f_624 := f_194.no ch_201
      have f_625 := b_184.no ch_201
      refine K.RW.q rfl rfl (K.QR.k (v := .tuple #[.agg #[.slice none 0 0, .slice none 0 0, .slice m_40 (([⟨3, 7⟩] : List PairM).length) c_41], .agg #[.int .i64 3, .int .u32 7]]) (by kernel_rfl)) ?_
      refine K.RW.q rfl rfl (K.QR.k (v := .agg #[.slice none 0 0, .slice none 0 0, .slice m_40 (([⟨3, 7⟩] : List PairM).length) c_41]) (by kernel_rfl)) ?_
      refine K.RW.q rfl rfl (K.QR.k (v := .agg #[.int .i64 3, .int .u32 7]) (by kernel_rfl)) ?_
      refine K.RW.l rfl (K.OW.new (t := 42) rfl (fun r => .pointer (some ⟨r, 0, none⟩)) [.slice none 0 0, .slice none 0 0, .slice none 0 0] (by kernel_rfl) ?_) 
      intro w_626 r_627 hr_628 e_629 hs_630 b_631
      have c_632 := c_615.no e_629
      have z_633 := c_632.size
      have zz_634 := e_629.size
      have f_635 := f_618.no e_629
      have f_636 := f_619.no e_629
      have f_637 := f_620.no e_629
      have f_638 := f_621.no e_629
      have f_639 := f_622.no e_629
      have f_640 := f_623.no e_629
      have f_641 := f_624.no e_629
      have f_642 := f_625.no e_629
      refine K.RW.l rfl (K.OW.new (t := 52) rfl (fun r => .pointer (some ⟨r, 0, none⟩)) [.int .i64 0, .int .u32 0] (by kernel_rfl) ?_) 
      intro w_643 r_644 hr_645 e_646 hs_647 b_648
      have c_649 := c_632.no e_646
      have z_650 := c_649.size
      have zz_651 := e_646.size
      have f_652 := f_635.no e_646
      have f_653 := f_636.no e_646
      have f_654 := f_637.no e_646
      have f_655 := f_638.no e_646
      have f_656 := f_639.no e_646
      have f_657 := f_640.no e_646
      have f_658 := f_641.no e_646
      have f_659 := f_642.no e_646
      have f_660 := b_631.no e_646
      have ap_661 : ∀ k, K.Ow a_134 k → ¬ k = r_644 := fun k hk he => absurd (f_641.lt k hk) (by omega)
      refine K.RW.l rfl (K.OW.st [.slice none 0 0, .slice none 0 0, .slice m_40 (([⟨3, 7⟩] : List PairM).length) c_41] [.slice none 0 0, .slice none 0 0, .slice m_40 (([⟨3, 7⟩] : List PairM).length) c_41] rfl rfl rfl (by kernel_rfl) f_660 rfl (K.one_cells (by rfl)) rfl rfl ?_) 
      intro w_662 e_663 hs_664 b_665
      have c_666 := c_649.own e_663 (by omega)
      have z_667 := c_666.size
      have zz_668 := e_663.size
      have f_669 := f_652.chg e_663 (by unfold K.Is; omega)
      have f_670 := f_653.chg e_663 (by unfold K.Is; omega)
      have f_671 := f_654.chg e_663 (f_654.ne f_660 (by decide))
      have f_672 := f_655.chg e_663 (fun k hk hy => f_655.ne_ty f_660 (by decide) k hk hy)
      have f_673 := f_656.chg e_663 (by unfold K.Is; omega)
      have f_674 := f_657.chg e_663 (f_657.ne f_660 (by decide))
      have f_675 := f_658.chg e_663 (fun k hk hy => f_658.ne_ty f_660 (by decide) k hk hy)
      have f_676 := f_659.chg e_663 (f_659.ne f_660 (by decide))
      have f_677 := b_648.chg e_663 (b_648.ne f_660 (by decide))
      refine K.RW.l rfl (K.OW.st [.int .i64 3, .int .u32 7] [.int .i64 3, .int .u32 7] rfl rfl rfl (by kernel_rfl) f_677 rfl (K.one_cells (by rfl)) rfl rfl ?_) 
      intro w_678 e_679 hs_680 b_681
      have c_682 := c_666.own e_679 (by omega)
      have z_683 := c_682.size
      have zz_684 := e_679.size
      have f_685 := f_669.chg e_679 (f_669.ne f_677 (by decide))
      have f_686 := f_670.chg e_679 (f_670.ne f_677 (by decide))
      have f_687 := f_671.chg e_679 (f_671.ne f_677 (by decide))
      have f_688 := f_672.chg e_679 (fun k hk hy => f_672.ne_ty f_677 (by decide) k hk hy)
      have f_689 := f_673.chg e_679 (f_673.ne f_677 (by decide))
      have f_690 := f_674.chg e_679 (by unfold K.Is; omega)
      have f_691 := f_675.chg e_679 (fun k hk hy => ap_661 k hk hy)
      have f_692 := f_676.chg e_679 (f_676.ne f_677 (by decide))
      have f_693 := b_665.chg e_679 (b_665.ne f_677 (by decide))
      refine K.RW.nil ?_
      refine K.thn_normal ?_
      -- region 6 model.go:128
      refine K.KW.drawn (fun w => K.Chg K.No w0 w ∧ (w.cell? ⟨r_627, 0, none⟩ = some (.slice none 0 0)) ∧ (w.cell? ⟨r_627, 1, none⟩ = some (.slice none 0 0)) ∧ (w.cell? ⟨r_627, 2, none⟩ = some (.slice m_40 (([⟨3, 7⟩] : List PairM).length) c_41))) (by kernel_rfl) ?_
      intro w_694 e_695 hs_696
      have c_698 := c_682.no e_695
      have z_699 := c_698.size
      have zz_700 := e_695.size
      have f_701 := f_685.no e_695
      have f_702 := f_686.no e_695
      have f_703 := f_687.no e_695
      have f_704 := f_688.no e_695
      have f_705 := f_689.no e_695
      have f_706 := f_690.no e_695
      have f_707 := f_691.no e_695
      have f_708 := f_692.no e_695
      have f_709 := f_693.no e_695
      have f_710 := b_681.no e_695
      have hS_697 : (fun w => K.Chg K.No w0 w ∧ (w.cell? ⟨r_627, 0, none⟩ = some (.slice none 0 0)) ∧ (w.cell? ⟨r_627, 1, none⟩ = some (.slice none 0 0)) ∧ (w.cell? ⟨r_627, 2, none⟩ = some (.slice m_40 (([⟨3, 7⟩] : List PairM).length) c_41))) w_694 := ⟨c_698, ((f_709).cell rfl), ((f_709).cell rfl), ((f_709).cell rfl)⟩
      refine K.DW.q 0 (by kernel_rfl) rfl rfl (by kernel_rfl) rfl (fun w hS => K.QR.ldN [.slice none 0 0, .slice none 0 0, .slice m_40 (([⟨3, 7⟩] : List PairM).length) c_41] rfl rfl (by kernel_rfl) (by kernel_rfl) (K.cells (K.cl (hS.2.1) (K.cl (hS.2.2.1) (K.cl (hS.2.2.2) K.cl0))))) hS_697 ?_
      refine K.DW.q 1 (by kernel_rfl) rfl rfl (by kernel_rfl) rfl (fun w hS => K.QR.k (v := .slice a_134 (0 + 1) cap_135) (by kernel_rfl)) hS_697 ?_
      refine K.DW.l 2 rfl (by kernel_rfl) rfl (K.OW.q rfl (K.QR.ldN [.int .i64 3, .int .u32 7] rfl rfl (by kernel_rfl) (by kernel_rfl) (K.cells (K.cl (f_710.cell rfl) (K.cl (f_710.cell rfl) K.cl0)))) ?_)
      refine ⟨.inl hS_697, ?_⟩
      refine K.DW.l 3 rfl (by kernel_rfl) rfl (K.OW.bs rfl [(0, .agg #[.int .i64 3, .int .u32 7])] [.int .i64 3, .int .u32 7] rfl rfl (fun w => K.bs_run (P := Try.prog) w 47 52 1 _ _ Try.underlying47 (by kernel_rfl)) ?_)
      intro w_711 r_712 hr_713 e_714 hs_715 b_716
      have c_717 := c_698.no e_714
      have z_718 := c_717.size
      have zz_719 := e_714.size
      have f_720 := f_701.no e_714
      have f_721 := f_702.no e_714
      have f_722 := f_703.no e_714
      have f_723 := f_704.no e_714
      have f_724 := f_705.no e_714
      have f_725 := f_706.no e_714
      have f_726 := f_707.no e_714
      have f_727 := f_708.no e_714
      have f_728 := f_709.no e_714
      have f_729 := f_710.no e_714
      have ap_730 : ∀ k, K.Ow a_134 k → ¬ k = r_712 := fun k hk he => absurd (f_707.lt k hk) (by omega)
      have hS_731 : (fun w => K.Chg K.No w0 w ∧ (w.cell? ⟨r_627, 0, none⟩ = some (.slice none 0 0)) ∧ (w.cell? ⟨r_627, 1, none⟩ = some (.slice none 0 0)) ∧ (w.cell? ⟨r_627, 2, none⟩ = some (.slice m_40 (([⟨3, 7⟩] : List PairM).length) c_41))) w_711 := ⟨c_717, ((f_728).cell rfl), ((f_728).cell rfl), ((f_728).cell rfl)⟩
      refine ⟨.inl hS_731, ?_⟩
      refine K.DW.l 4 rfl (by kernel_rfl) rfl (K.OW.app2 (P := Try.prog) (xs := (([] ++ [((1, 0) : Int × Int)])).flatMap cRes) (z := .agg #[.int .i64 0, .int .u32 0]) (size := 2) (bytes := 16) rfl [.int .i64 3, .int .u32 7] rfl rfl f_726 rfl Try.underlying47 (by kernel_rfl) rfl (by decide) (by rfl) (fun j u hj => (by rw [Nat.zero_add]; exact b_716.cell hj)) (K.one_cells (by rfl)) (by unfold maxLen; omega) (by omega) (by omega) ?_)
      intro a_732 cap_733 w_734 e_735 o_736 hk_737
      have c_738 := c_717.trans e_735 (fun i hi hy => absurd (f_726.base_le i hy) (by omega))
      have z_739 := c_738.size
      have zz_740 := e_735.size
      have f_741 := f_720.chg e_735 (fun hk => f_726.ne_ty f_720 (by decide) _ hk rfl)
      have f_742 := f_721.chg e_735 (fun hk => f_726.ne_ty f_721 (by decide) _ hk rfl)
      have f_743 := f_722.chg e_735 (fun hk => f_726.ne_ty f_722 (by decide) _ hk rfl)
      have f_744 := f_723.chg e_735 (fun k hk hy => f_723.ne_own f_726 (by decide) k hk hy)
      have f_745 := f_724.chg e_735 (fun hk => f_726.ne_ty f_724 (by decide) _ hk rfl)
      have f_747 := f_727.chg e_735 (fun hk => f_726.ne_ty f_727 (by decide) _ hk rfl)
      have f_748 := f_728.chg e_735 (fun hk => f_726.ne_ty f_728 (by decide) _ hk rfl)
      have f_749 := f_729.chg e_735 (fun hk => ap_661 _ hk rfl)
      have o_736t := K.Own.snoc (c := cRes) (L := ([] ++ [((1, 0) : Int × Int)])) ((3, 7) : Int × Int) rfl o_736
      have ln_750 : ((([] ++ [((1, 0) : Int × Int)]) ++ [((3, 7) : Int × Int)])).length = 0 + 1 + 1 := by rw [List.length_append, ln_149]; rfl
      have hS_751 : (fun w => K.Chg K.No w0 w ∧ (w.cell? ⟨r_627, 0, none⟩ = some (.slice none 0 0)) ∧ (w.cell? ⟨r_627, 1, none⟩ = some (.slice none 0 0)) ∧ (w.cell? ⟨r_627, 2, none⟩ = some (.slice m_40 (([⟨3, 7⟩] : List PairM).length) c_41))) w_734 := ⟨c_738, ((f_748).cell rfl), ((f_748).cell rfl), ((f_748).cell rfl)⟩
      refine ⟨.inl hS_751, ?_⟩
      refine K.DW.l 5 rfl (by kernel_rfl) rfl (K.OW.st [.slice none 0 0, .slice none 0 0, .slice m_40 (([⟨3, 7⟩] : List PairM).length) c_41] [.slice none 0 0, .slice none 0 0, .slice m_40 (([⟨3, 7⟩] : List PairM).length) c_41] rfl rfl rfl (by kernel_rfl) f_741 rfl (K.one_cells (by rfl)) rfl rfl ?_)
      intro w_752 e_753 hs_754 b_755
      have c_756 := c_738.own e_753 (by omega)
      have z_757 := c_756.size
      have zz_758 := e_753.size
      have f_759 := f_742.chg e_753 (by unfold K.Is; omega)
      have f_760 := f_743.chg e_753 (f_743.ne f_741 (by decide))
      have f_761 := f_744.chg e_753 (fun k hk hy => f_744.ne_ty f_741 (by decide) k hk hy)
      have f_762 := f_745.chg e_753 (by unfold K.Is; omega)
      have f_763 := f_747.chg e_753 (f_747.ne f_741 (by decide))
      have f_764 := f_748.chg e_753 (by unfold K.Is; omega)
      have f_765 := f_749.chg e_753 (f_749.ne f_741 (by decide))
      have f_766 := o_736t.chg e_753 (fun k hk hy => o_736t.ne_ty f_741 (by decide) k hk hy)
      have hS_767 : (fun w => K.Chg K.No w0 w ∧ (w.cell? ⟨r_627, 0, none⟩ = some (.slice none 0 0)) ∧ (w.cell? ⟨r_627, 1, none⟩ = some (.slice none 0 0)) ∧ (w.cell? ⟨r_627, 2, none⟩ = some (.slice m_40 (([⟨3, 7⟩] : List PairM).length) c_41))) w_752 := ⟨c_756, ((f_764).cell rfl), ((f_764).cell rfl), ((f_764).cell rfl)⟩
      refine ⟨.inl hS_767, ?_⟩
      refine K.DW.l 6 rfl (by kernel_rfl) rfl (K.OW.q rfl (K.QR.k (v := .slice a_732 (0 + 1 + 1) cap_733) (by kernel_rfl)) ?_)
      refine ⟨.inl hS_767, ?_⟩
      refine K.DW.done (by kernel_rfl) ?_
      refine K.blk_normal ?_
      refine K.thn_normal ?_
      -- region 7 model.go:126
      refine K.KW.region ?_
      refine K.RW.q rfl rfl (K.QR.k (v := .int .i64 2) (by kernel_rfl)) ?_
      refine K.RW.q rfl rfl (K.QR.k (v := .int .i64 2) (by kernel_rfl)) ?_
      refine K.RW.nil ?_
      refine K.thn_normal ?_
      refine K.Unr.succ ?_
      refine K.KW.seq ?_
      -- region 3 model.go:126
      refine K.KW.region ?_
      refine K.RW.q rfl rfl (K.QR.k (v := .bool true) (by kernel_rfl)) ?_
      refine K.RW.nil ?_
      refine K.thn_normal ?_
      refine K.KW.seq ?_
      refine K.KW.ifT rfl ?_
      refine K.KW.skip ?_
      refine K.thn_normal ?_
      refine K.KW.seq ?_
      refine K.KW.block ?_
      refine K.KW.seq ?_
      -- region 4 model.go:126
      refine K.KW.region ?_
      refine K.RW.q rfl rfl (K.QR.ix 6 3 rfl rfl rfl Try.underlying50 (by kernel_rfl) (by omega) (by first | (simp; done) | omega | (simp; omega))) ?_
      refine K.RW.q rfl rfl (K.QR.ldN [.int .i64 8, .int .u32 3, .int .u32 0] rfl rfl (by kernel_rfl) (by kernel_rfl) (K.cells (K.cl (c_756.cell (hb.cell rfl) id) (K.cl (c_756.cell (hb.cell rfl) id) (K.cl (c_756.cell (hb.cell rfl) id) K.cl0))))) ?_
      refine K.RW.l rfl (K.OW.new (t := 45) rfl (fun r => .pointer (some ⟨r, 0, none⟩)) [.int .i64 0, .int .u32 0, .int .u32 0] (by kernel_rfl) ?_) 
      intro w_768 r_769 hr_770 e_771 hs_772 b_773
      have c_774 := c_756.no e_771
      have z_775 := c_774.size
      have zz_776 := e_771.size
      have f_777 := b_755.no e_771
      have f_778 := f_759.no e_771
      have f_779 := f_760.no e_771
      have f_780 := f_761.no e_771
      have f_781 := f_762.no e_771
      have f_782 := f_763.no e_771
      have f_783 := f_764.no e_771
      have f_784 := f_765.no e_771
      have f_785 := f_766.no e_771
      refine K.RW.l rfl (K.OW.st [.int .i64 8, .int .u32 3, .int .u32 0] [.int .i64 8, .int .u32 3, .int .u32 0] rfl rfl rfl (by kernel_rfl) b_773 rfl (K.one_cells (by rfl)) rfl rfl ?_) 
      intro w_786 e_787 hs_788 b_789
      have c_790 := c_774.own e_787 (by omega)
      have z_791 := c_790.size
      have zz_792 := e_787.size
      have f_793 := f_777.chg e_787 (f_777.ne b_773 (by decide))
      have f_794 := f_778.chg e_787 (f_778.ne b_773 (by decide))
      have f_795 := f_779.chg e_787 (by unfold K.Is; omega)
      have f_796 := f_780.chg e_787 (fun k hk hy => f_780.ne_ty b_773 (by decide) k hk hy)
      have f_797 := f_781.chg e_787 (f_781.ne b_773 (by decide))
      have f_798 := f_782.chg e_787 (by unfold K.Is; omega)
      have f_799 := f_783.chg e_787 (f_783.ne b_773 (by decide))
      have f_800 := f_784.chg e_787 (f_784.ne b_773 (by decide))
      have f_801 := f_785.chg e_787 (fun k hk hy => f_785.ne_ty b_773 (by decide) k hk hy)
      refine K.RW.nil ?_
      refine K.thn_normal ?_
      refine K.KW.seq ?_
      -- region 5 model.go:127
      refine K.KW.region ?_
      refine K.RW.q rfl rfl (K.QR.ldN [.slice none 0 0, .slice none 0 0, .slice m_40 (([⟨3, 7⟩] : List PairM).length) c_41] rfl rfl (by kernel_rfl) (by kernel_rfl) (K.cells (K.cl (f_793.cell rfl) (K.cl (f_793.cell rfl) (K.cl (f_793.cell rfl) K.cl0))))) ?_
      refine K.RW.q rfl rfl (K.QR.ldN [.int .i64 8, .int .u32 3, .int .u32 0] rfl rfl (by kernel_rfl) (by kernel_rfl) (K.cells (K.cl (b_789.cell rfl) (K.cl (b_789.cell rfl) (K.cl (b_789.cell rfl) K.cl0))))) ?_
      refine K.RW.l rfl (K.OW.call rfl [.agg #[.slice none 0 0, .slice none 0 0, .slice m_40 (([⟨3, 7⟩] : List PairM).length) c_41], .agg #[.int .i64 8, .int .u32 3, .int .u32 0]] rfl rfl (by kernel_rfl) (apply6_ok _ _ _ _ _ _ _ _ ([⟨3, 7⟩] : List PairM) ([] : List PairM) 8 3 0 1 7 _ (by decide) (by decide) (rising_lit (by decide)) (K.Own.rowE p0 f_796 rfl (fun _ => rfl)) (by decide)) ?_) 
      rintro _ w_804 (⟨m_802, c_803, rfl, ch_805, hx_806⟩ | ⟨hs_807, rfl, ch_808⟩)
      ·  -- a new row
        have c_809 := c_790.no ch_805
        have z_810 := c_809.size
        have zz_811 := ch_805.size
        have f_812 := f_793.no ch_805
        have f_813 := f_794.no ch_805
        have f_814 := f_795.no ch_805
        have f_815 := f_796.no ch_805
        have f_816 := f_797.no ch_805
        have f_817 := f_798.no ch_805
        have f_818 := f_799.no ch_805
        have f_819 := f_800.no ch_805
        have f_820 := f_801.no ch_805
        have f_821 := b_789.no ch_805
        have o_822 := K.Own.mono (base' := w0.heap.size) hx_806 (by omega)
        refine K.RW.q rfl rfl (K.QR.k (v := .tuple #[.agg #[.slice none 0 0, .slice none 0 0, .slice m_802 (([] : List PairM).length) c_803], .agg #[.int .i64 1, .int .u32 7]]) (by kernel_rfl)) ?_
        refine K.RW.q rfl rfl (K.QR.k (v := .agg #[.slice none 0 0, .slice none 0 0, .slice m_802 (([] : List PairM).length) c_803]) (by kernel_rfl)) ?_
        refine K.RW.q rfl rfl (K.QR.k (v := .agg #[.int .i64 1, .int .u32 7]) (by kernel_rfl)) ?_
        refine K.RW.l rfl (K.OW.new (t := 42) rfl (fun r => .pointer (some ⟨r, 0, none⟩)) [.slice none 0 0, .slice none 0 0, .slice none 0 0] (by kernel_rfl) ?_) 
        intro w_823 r_824 hr_825 e_826 hs_827 b_828
        have c_829 := c_809.no e_826
        have z_830 := c_829.size
        have zz_831 := e_826.size
        have f_832 := f_812.no e_826
        have f_833 := f_813.no e_826
        have f_834 := f_814.no e_826
        have f_835 := f_815.no e_826
        have f_836 := f_816.no e_826
        have f_837 := f_817.no e_826
        have f_838 := f_818.no e_826
        have f_839 := f_819.no e_826
        have f_840 := f_820.no e_826
        have f_841 := f_821.no e_826
        have f_842 := o_822.no e_826
        refine K.RW.l rfl (K.OW.new (t := 52) rfl (fun r => .pointer (some ⟨r, 0, none⟩)) [.int .i64 0, .int .u32 0] (by kernel_rfl) ?_) 
        intro w_843 r_844 hr_845 e_846 hs_847 b_848
        have c_849 := c_829.no e_846
        have z_850 := c_849.size
        have zz_851 := e_846.size
        have f_852 := f_832.no e_846
        have f_853 := f_833.no e_846
        have f_854 := f_834.no e_846
        have f_855 := f_835.no e_846
        have f_856 := f_836.no e_846
        have f_857 := f_837.no e_846
        have f_858 := f_838.no e_846
        have f_859 := f_839.no e_846
        have f_860 := f_840.no e_846
        have f_861 := f_841.no e_846
        have f_862 := f_842.no e_846
        have f_863 := b_828.no e_846
        have ap_864 : ∀ k, K.Ow a_732 k → ¬ k = r_844 := fun k hk he => absurd (f_840.lt k hk) (by omega)
        refine K.RW.l rfl (K.OW.st [.slice none 0 0, .slice none 0 0, .slice m_802 (([] : List PairM).length) c_803] [.slice none 0 0, .slice none 0 0, .slice m_802 (([] : List PairM).length) c_803] rfl rfl rfl (by kernel_rfl) f_863 rfl (K.one_cells (by rfl)) rfl rfl ?_) 
        intro w_865 e_866 hs_867 b_868
        have c_869 := c_849.own e_866 (by omega)
        have z_870 := c_869.size
        have zz_871 := e_866.size
        have f_872 := f_852.chg e_866 (by unfold K.Is; omega)
        have f_873 := f_853.chg e_866 (by unfold K.Is; omega)
        have f_874 := f_854.chg e_866 (f_854.ne f_863 (by decide))
        have f_875 := f_855.chg e_866 (fun k hk hy => f_855.ne_ty f_863 (by decide) k hk hy)
        have f_876 := f_856.chg e_866 (by unfold K.Is; omega)
        have f_877 := f_857.chg e_866 (f_857.ne f_863 (by decide))
        have f_878 := f_858.chg e_866 (by unfold K.Is; omega)
        have f_879 := f_859.chg e_866 (f_859.ne f_863 (by decide))
        have f_880 := f_860.chg e_866 (fun k hk hy => f_860.ne_ty f_863 (by decide) k hk hy)
        have f_881 := f_861.chg e_866 (f_861.ne f_863 (by decide))
        have f_882 := f_862.chg e_866 (fun k hk hy => f_862.ne_ty f_863 (by decide) k hk hy)
        have f_883 := b_848.chg e_866 (b_848.ne f_863 (by decide))
        refine K.RW.l rfl (K.OW.st [.int .i64 1, .int .u32 7] [.int .i64 1, .int .u32 7] rfl rfl rfl (by kernel_rfl) f_883 rfl (K.one_cells (by rfl)) rfl rfl ?_) 
        intro w_884 e_885 hs_886 b_887
        have c_888 := c_869.own e_885 (by omega)
        have z_889 := c_888.size
        have zz_890 := e_885.size
        have f_891 := f_872.chg e_885 (f_872.ne f_883 (by decide))
        have f_892 := f_873.chg e_885 (f_873.ne f_883 (by decide))
        have f_893 := f_874.chg e_885 (f_874.ne f_883 (by decide))
        have f_894 := f_875.chg e_885 (fun k hk hy => f_875.ne_ty f_883 (by decide) k hk hy)
        have f_895 := f_876.chg e_885 (f_876.ne f_883 (by decide))
        have f_896 := f_877.chg e_885 (f_877.ne f_883 (by decide))
        have f_897 := f_878.chg e_885 (f_878.ne f_883 (by decide))
        have f_898 := f_879.chg e_885 (by unfold K.Is; omega)
        have f_899 := f_880.chg e_885 (fun k hk hy => ap_864 k hk hy)
        have f_900 := f_881.chg e_885 (f_881.ne f_883 (by decide))
        have f_901 := f_882.chg e_885 (fun k hk hy => f_882.ne_ty f_883 (by decide) k hk hy)
        have f_902 := b_868.chg e_885 (b_868.ne f_883 (by decide))
        refine K.RW.nil ?_
        refine K.thn_normal ?_
        -- region 6 model.go:128
        refine K.KW.drawn (fun w => K.Chg K.No w0 w ∧ (w.cell? ⟨r_824, 0, none⟩ = some (.slice none 0 0)) ∧ (w.cell? ⟨r_824, 1, none⟩ = some (.slice none 0 0)) ∧ (w.cell? ⟨r_824, 2, none⟩ = some (.slice m_802 (([] : List PairM).length) c_803))) (by kernel_rfl) ?_
        intro w_903 e_904 hs_905
        have c_907 := c_888.no e_904
        have z_908 := c_907.size
        have zz_909 := e_904.size
        have f_910 := f_891.no e_904
        have f_911 := f_892.no e_904
        have f_912 := f_893.no e_904
        have f_913 := f_894.no e_904
        have f_914 := f_895.no e_904
        have f_915 := f_896.no e_904
        have f_916 := f_897.no e_904
        have f_917 := f_898.no e_904
        have f_918 := f_899.no e_904
        have f_919 := f_900.no e_904
        have f_920 := f_901.no e_904
        have f_921 := f_902.no e_904
        have f_922 := b_887.no e_904
        have hS_906 : (fun w => K.Chg K.No w0 w ∧ (w.cell? ⟨r_824, 0, none⟩ = some (.slice none 0 0)) ∧ (w.cell? ⟨r_824, 1, none⟩ = some (.slice none 0 0)) ∧ (w.cell? ⟨r_824, 2, none⟩ = some (.slice m_802 (([] : List PairM).length) c_803))) w_903 := ⟨c_907, ((f_921).cell rfl), ((f_921).cell rfl), ((f_921).cell rfl)⟩
        refine K.DW.q 0 (by kernel_rfl) rfl rfl (by kernel_rfl) rfl (fun w hS => K.QR.ldN [.slice none 0 0, .slice none 0 0, .slice m_802 (([] : List PairM).length) c_803] rfl rfl (by kernel_rfl) (by kernel_rfl) (K.cells (K.cl (hS.2.1) (K.cl (hS.2.2.1) (K.cl (hS.2.2.2) K.cl0))))) hS_906 ?_
        refine K.DW.q 1 (by kernel_rfl) rfl rfl (by kernel_rfl) rfl (fun w hS => K.QR.k (v := .slice a_732 (0 + 1 + 1) cap_733) (by kernel_rfl)) hS_906 ?_
        refine K.DW.l 2 rfl (by kernel_rfl) rfl (K.OW.q rfl (K.QR.ldN [.int .i64 1, .int .u32 7] rfl rfl (by kernel_rfl) (by kernel_rfl) (K.cells (K.cl (f_922.cell rfl) (K.cl (f_922.cell rfl) K.cl0)))) ?_)
        refine ⟨.inl hS_906, ?_⟩
        refine K.DW.l 3 rfl (by kernel_rfl) rfl (K.OW.bs rfl [(0, .agg #[.int .i64 1, .int .u32 7])] [.int .i64 1, .int .u32 7] rfl rfl (fun w => K.bs_run (P := Try.prog) w 47 52 1 _ _ Try.underlying47 (by kernel_rfl)) ?_)
        intro w_923 r_924 hr_925 e_926 hs_927 b_928
        have c_929 := c_907.no e_926
        have z_930 := c_929.size
        have zz_931 := e_926.size
        have f_932 := f_910.no e_926
        have f_933 := f_911.no e_926
        have f_934 := f_912.no e_926
        have f_935 := f_913.no e_926
        have f_936 := f_914.no e_926
        have f_937 := f_915.no e_926
        have f_938 := f_916.no e_926
        have f_939 := f_917.no e_926
        have f_940 := f_918.no e_926
        have f_941 := f_919.no e_926
        have f_942 := f_920.no e_926
        have f_943 := f_921.no e_926
        have f_944 := f_922.no e_926
        have ap_945 : ∀ k, K.Ow a_732 k → ¬ k = r_924 := fun k hk he => absurd (f_918.lt k hk) (by omega)
        have hS_946 : (fun w => K.Chg K.No w0 w ∧ (w.cell? ⟨r_824, 0, none⟩ = some (.slice none 0 0)) ∧ (w.cell? ⟨r_824, 1, none⟩ = some (.slice none 0 0)) ∧ (w.cell? ⟨r_824, 2, none⟩ = some (.slice m_802 (([] : List PairM).length) c_803))) w_923 := ⟨c_929, ((f_943).cell rfl), ((f_943).cell rfl), ((f_943).cell rfl)⟩
        refine ⟨.inl hS_946, ?_⟩
        refine K.DW.l 4 rfl (by kernel_rfl) rfl (K.OW.app2 (P := Try.prog) (xs := ((([] ++ [((1, 0) : Int × Int)]) ++ [((3, 7) : Int × Int)])).flatMap cRes) (z := .agg #[.int .i64 0, .int .u32 0]) (size := 2) (bytes := 16) rfl [.int .i64 1, .int .u32 7] rfl rfl f_940 rfl Try.underlying47 (by kernel_rfl) rfl (by decide) (by rfl) (fun j u hj => (by rw [Nat.zero_add]; exact b_928.cell hj)) (K.one_cells (by rfl)) (by unfold maxLen; omega) (by omega) (by omega) ?_)
        intro a_947 cap_948 w_949 e_950 o_951 hk_952
        have c_953 := c_929.trans e_950 (fun i hi hy => absurd (f_940.base_le i hy) (by omega))
        have z_954 := c_953.size
        have zz_955 := e_950.size
        have f_956 := f_932.chg e_950 (fun hk => f_940.ne_ty f_932 (by decide) _ hk rfl)
        have f_957 := f_933.chg e_950 (fun hk => f_940.ne_ty f_933 (by decide) _ hk rfl)
        have f_958 := f_934.chg e_950 (fun hk => f_940.ne_ty f_934 (by decide) _ hk rfl)
        have f_959 := f_935.chg e_950 (fun k hk hy => f_935.ne_own f_940 (by decide) k hk hy)
        have f_960 := f_936.chg e_950 (fun hk => f_940.ne_ty f_936 (by decide) _ hk rfl)
        have f_961 := f_937.chg e_950 (fun hk => f_940.ne_ty f_937 (by decide) _ hk rfl)
        have f_962 := f_938.chg e_950 (fun hk => f_940.ne_ty f_938 (by decide) _ hk rfl)
        have f_964 := f_941.chg e_950 (fun hk => f_940.ne_ty f_941 (by decide) _ hk rfl)
        have f_965 := f_942.chg e_950 (fun k hk hy => f_942.ne_own f_940 (by decide) k hk hy)
        have f_966 := f_943.chg e_950 (fun hk => f_940.ne_ty f_943 (by decide) _ hk rfl)
        have f_967 := f_944.chg e_950 (fun hk => ap_864 _ hk rfl)
        have o_951t := K.Own.snoc (c := cRes) (L := (([] ++ [((1, 0) : Int × Int)]) ++ [((3, 7) : Int × Int)])) ((1, 7) : Int × Int) rfl o_951
        have ln_968 : (((([] ++ [((1, 0) : Int × Int)]) ++ [((3, 7) : Int × Int)]) ++ [((1, 7) : Int × Int)])).length = 0 + 1 + 1 + 1 := by rw [List.length_append, ln_750]; rfl
        have hS_969 : (fun w => K.Chg K.No w0 w ∧ (w.cell? ⟨r_824, 0, none⟩ = some (.slice none 0 0)) ∧ (w.cell? ⟨r_824, 1, none⟩ = some (.slice none 0 0)) ∧ (w.cell? ⟨r_824, 2, none⟩ = some (.slice m_802 (([] : List PairM).length) c_803))) w_949 := ⟨c_953, ((f_966).cell rfl), ((f_966).cell rfl), ((f_966).cell rfl)⟩
        refine ⟨.inl hS_969, ?_⟩
        refine K.DW.l 5 rfl (by kernel_rfl) rfl (K.OW.st [.slice none 0 0, .slice none 0 0, .slice m_802 (([] : List PairM).length) c_803] [.slice none 0 0, .slice none 0 0, .slice m_802 (([] : List PairM).length) c_803] rfl rfl rfl (by kernel_rfl) f_956 rfl (K.one_cells (by rfl)) rfl rfl ?_)
        intro w_970 e_971 hs_972 b_973
        have c_974 := c_953.own e_971 (by omega)
        have z_975 := c_974.size
        have zz_976 := e_971.size
        have f_977 := f_957.chg e_971 (by unfold K.Is; omega)
        have f_978 := f_958.chg e_971 (f_958.ne f_956 (by decide))
        have f_979 := f_959.chg e_971 (fun k hk hy => f_959.ne_ty f_956 (by decide) k hk hy)
        have f_980 := f_960.chg e_971 (by unfold K.Is; omega)
        have f_981 := f_961.chg e_971 (f_961.ne f_956 (by decide))
        have f_982 := f_962.chg e_971 (by unfold K.Is; omega)
        have f_983 := f_964.chg e_971 (f_964.ne f_956 (by decide))
        have f_984 := f_965.chg e_971 (fun k hk hy => f_965.ne_ty f_956 (by decide) k hk hy)
        have f_985 := f_966.chg e_971 (by unfold K.Is; omega)
        have f_986 := f_967.chg e_971 (f_967.ne f_956 (by decide))
        have f_987 := o_951t.chg e_971 (fun k hk hy => o_951t.ne_ty f_956 (by decide) k hk hy)
        have hS_988 : (fun w => K.Chg K.No w0 w ∧ (w.cell? ⟨r_824, 0, none⟩ = some (.slice none 0 0)) ∧ (w.cell? ⟨r_824, 1, none⟩ = some (.slice none 0 0)) ∧ (w.cell? ⟨r_824, 2, none⟩ = some (.slice m_802 (([] : List PairM).length) c_803))) w_970 := ⟨c_974, ((f_985).cell rfl), ((f_985).cell rfl), ((f_985).cell rfl)⟩
        refine ⟨.inl hS_988, ?_⟩
        refine K.DW.l 6 rfl (by kernel_rfl) rfl (K.OW.q rfl (K.QR.k (v := .slice a_947 (0 + 1 + 1 + 1) cap_948) (by kernel_rfl)) ?_)
        refine ⟨.inl hS_988, ?_⟩
        refine K.DW.done (by kernel_rfl) ?_
        refine K.blk_normal ?_
        refine K.thn_normal ?_
        -- region 7 model.go:126
        refine K.KW.region ?_
        refine K.RW.q rfl rfl (K.QR.k (v := .int .i64 3) (by kernel_rfl)) ?_
        refine K.RW.q rfl rfl (K.QR.k (v := .int .i64 3) (by kernel_rfl)) ?_
        refine K.RW.nil ?_
        refine K.thn_normal ?_
        refine K.Unr.zero ?_
        refine K.KW.seq ?_
        -- region 3 model.go:126
        refine K.KW.region ?_
        refine K.RW.q rfl rfl (K.QR.k (v := .bool false) (by kernel_rfl)) ?_
        refine K.RW.nil ?_
        refine K.thn_normal ?_
        refine K.KW.seq ?_
        refine K.KW.ifF rfl ?_
        refine K.KW.exit ?_
        refine K.thn_exit ?_
        refine K.thn_exit ?_
        refine K.blk_hit ?_
        refine K.thn_normal ?_
        refine K.KW.seq ?_
        -- region 8 model.go:130
        refine K.KW.region ?_
        refine K.RW.q rfl rfl (K.QR.ldN [.slice none 0 0, .slice none 0 0, .slice m_802 (([] : List PairM).length) c_803] rfl rfl (by kernel_rfl) (by kernel_rfl) (K.cells (K.cl (b_973.cell rfl) (K.cl (b_973.cell rfl) (K.cl (b_973.cell rfl) K.cl0))))) ?_
        refine K.RW.q rfl rfl (K.QR.k (v := .slice a_947 (0 + 1 + 1 + 1) cap_948) (by kernel_rfl)) ?_
        refine K.RW.l rfl (K.OW.st [.slice none 0 0, .slice none 0 0, .slice m_802 (([] : List PairM).length) c_803] [.slice none 0 0, .slice none 0 0, .slice m_802 (([] : List PairM).length) c_803] rfl rfl rfl (by kernel_rfl) f_977 rfl (K.one_cells (by rfl)) rfl rfl ?_) 
        intro w_989 e_990 hs_991 b_992
        have c_993 := c_974.own e_990 (by omega)
        have z_994 := c_993.size
        have zz_995 := e_990.size
        have f_996 := b_973.chg e_990 (by unfold K.Is; omega)
        have f_997 := f_978.chg e_990 (f_978.ne f_977 (by decide))
        have f_998 := f_979.chg e_990 (fun k hk hy => f_979.ne_ty f_977 (by decide) k hk hy)
        have f_999 := f_980.chg e_990 (by unfold K.Is; omega)
        have f_1000 := f_981.chg e_990 (f_981.ne f_977 (by decide))
        have f_1001 := f_982.chg e_990 (by unfold K.Is; omega)
        have f_1002 := f_983.chg e_990 (f_983.ne f_977 (by decide))
        have f_1003 := f_984.chg e_990 (fun k hk hy => f_984.ne_ty f_977 (by decide) k hk hy)
        have f_1004 := f_985.chg e_990 (by unfold K.Is; omega)
        have f_1005 := f_986.chg e_990 (f_986.ne f_977 (by decide))
        have f_1006 := f_987.chg e_990 (fun k hk hy => f_987.ne_ty f_977 (by decide) k hk hy)
        refine K.RW.q rfl rfl (K.QR.k (v := .slice a_947 (0 + 1 + 1 + 1) cap_948) (by kernel_rfl)) ?_
        refine K.RW.nil ?_
        refine K.thn_normal ?_
        refine K.KW.ret ?_
        refine ⟨.inr rfl, rfl, (.tuple #[.agg #[.slice none 0 0, .slice none 0 0, .slice m_802 (([] : List PairM).length) c_803], .slice a_947 (0 + 1 + 1 + 1) cap_948]), K.resAt (rs := [.cell 4 42, .tmp 5]) [.agg #[.slice none 0 0, .slice none 0 0, .slice m_802 (([] : List PairM).length) c_803], .slice a_947 (0 + 1 + 1 + 1) cap_948] rfl ⟨⟨_, rfl, K.lvN [.slice none 0 0, .slice none 0 0, .slice m_802 (([] : List PairM).length) c_803] (by kernel_rfl) (by kernel_rfl) (K.cells (K.cl (b_992.cell rfl) (K.cl (b_992.cell rfl) (K.cl (b_992.cell rfl) K.cl0))))⟩, rfl, trivial⟩, ?_⟩
        exact ⟨_, _, _, _, rfl, c_993, f_1006⟩
      ·  -- as it was
        exact absurd hs_807 (by decide)
  ·  -- as it was
    exact absurd hs_45 (by decide)

end Go.Proofs.Ytgeihjiichdpbaa
