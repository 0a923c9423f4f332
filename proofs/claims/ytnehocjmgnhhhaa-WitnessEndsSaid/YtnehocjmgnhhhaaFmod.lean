import Derived.Test.YtnehocjmgnhhhaaFsl3
import Derived.Test.YtnehocjmgnhhhaaKn
/- package model: pairs, Apply on the map, Run. -/
namespace Go.Proofs.Ytnehocjmgnhhhaa
open Go.RowKit
set_option linter.unusedVariables false
attribute [local irreducible] K.KW K.RW K.DW K.OW K.QR K.KC
theorem posT_le (ks : List Int) (k : Int) : posT ks k ≤ ks.length := (List.takeWhile_sublist _).length_le
theorem hasT_lt {ks : List Int} {k : Int} (h : hasT ks k = true) : posT ks k < ks.length := (of_decide_eq_true h).1
theorem findU2_ok (a : Option Addr) (cap : Nat) (xs : List Int) (k : Int) (w0 : World) (hm : xs.length ≤ 1000000000) (hr : rising xs) (hx : RU32 w0 a xs) :
  K.KC Try.prog 71 #[.slice a xs.length cap, .int .u32 k, .func (.func 55) [].toArray [].toArray] w0 (fun v w' => (hasT xs k = true ∧ v = .tuple #[K.iv (posT xs k), .bool true] ∧ K.Chg K.No w0 w') ∨ (hasT xs k = false ∧ v = .tuple #[K.iv (posT xs k), .bool false] ∧ K.Chg K.No w0 w')) :=
 (findU_ok a cap xs k w0 hm hr hx).mono fun v w h => by
  cases hb : hasT xs k
  ·rw [hb] at h; exact .inr ⟨rfl, h⟩
  ·rw [hb] at h; exact .inl ⟨rfl, h⟩
theorem findP2_ok (a : Option Addr) (cap : Nat) (xs : List PairM) (k : Int) (w0 : World) (hm : xs.length ≤ 1000000000) (hr : rising (keysP xs)) (hx : RPr w0 a xs) :
  K.KC Try.prog 72 #[.slice a xs.length cap, .int .u32 k, .func (.func 57) [].toArray [].toArray] w0 (fun v w' => (hasT (keysP xs) k = true ∧ v = .tuple #[K.iv (posT (keysP xs) k), .bool true] ∧ K.Chg K.No w0 w') ∨ (hasT (keysP xs) k = false ∧ v = .tuple #[K.iv (posT (keysP xs) k), .bool false] ∧ K.Chg K.No w0 w')) :=
 (findP_ok a cap xs k w0 hm hr hx).mono fun v w h => by
  cases hb : hasT (keysP xs) k
  ·rw [hb] at h; exact .inr ⟨rfl, h⟩
  ·rw [hb] at h; exact .inl ⟨rfl, h⟩
set_option maxHeartbeats 1000000 in
set_option maxRecDepth 100000 in
theorem result_ok (k x : Int) (w0 : World) :
  K.KC Try.prog 60 #[K.iv k, .int .u32 x] w0 (fun v w' => v = .agg #[K.iv k, .int .u32 x] ∧ K.Chg K.No w0 w') := by
 refine K.KC.mk (n := 8) Try.func60 rfl rfl [K.iv k, .int .u32 x] rfl rfl ?_
 refine K.s ?_
 refine K.g ?_
 refine K.l (K.OW.new (t := 49) rfl (fun r => K.pa r) [K.iv 0, .int .u32 0] (by kernel_rfl) ?_)
 intro w_1 r_2 hr_3 e_4 hs_5 b_6
 have c_7 := e_4
 have z_8 := c_7.size
 have zz_9 := e_4.size
 refine K.z (K.t (K.s ?_))
 refine K.g (K.q [K.iv k, .int .u32 x] ?_)
 refine K.a (K.QR.bd [(0, K.iv k), (1, .int .u32 x)] [K.iv k, .int .u32 x] rfl rfl (by kernel_rfl)) ?_
 refine K.l (K.OW.st [K.iv k, .int .u32 x] [K.iv k, .int .u32 x] rfl rfl rfl (by kernel_rfl) b_6 rfl (K.one_cells (by rfl)) rfl rfl ?_)
 intro w_10 e_11 hs_12 b_13
 have c_14 := c_7.own e_11 (by omega)
 have z_15 := c_14.size
 have zz_16 := e_11.size
 refine K.z (K.t (K.r ?_))
 refine ⟨.inr rfl, rfl, (.agg #[K.iv k, .int .u32 x]), K.resAt (rs := [.cell 4 49]) [.agg #[K.iv k, .int .u32 x]] rfl ⟨⟨_, rfl, K.lvN [K.iv k, .int .u32 x] (by kernel_rfl) (by kernel_rfl) (K.cells (K.cl (b_13.cell rfl) (K.cl (b_13.cell rfl) K.cl0)))⟩, trivial⟩, ?_⟩
 exact ⟨rfl, c_14⟩
def pairsT (xs : List PairM) (kind key val : Int) : List PairM × Int × Int :=
 if hasT (keysP xs) key = true then (if kind = 8 then (delT xs (posT (keysP xs) key), 1, (xs.getD (posT (keysP xs) key) p0).val) else (xs, 3, (xs.getD (posT (keysP xs) key) p0).val))
 else if kind = 6 then (insT xs (posT (keysP xs) key) ⟨key, val⟩, 1, 0) else (xs, 4, 0)
theorem pairsT_tt {xs : List PairM} {kind key val : Int} (h : hasT (keysP xs) key = true) (h2 : kind = 8) : pairsT xs kind key val = (delT xs (posT (keysP xs) key), 1, (xs.getD (posT (keysP xs) key) p0).val) := by unfold pairsT; rw [if_pos h, if_pos h2]
theorem pairsT_tf {xs : List PairM} {kind key val : Int} (h : hasT (keysP xs) key = true) (h2 : ¬ kind = 8) : pairsT xs kind key val = (xs, 3, (xs.getD (posT (keysP xs) key) p0).val) := by unfold pairsT; rw [if_pos h, if_neg h2]
theorem pairsT_ft {xs : List PairM} {kind key val : Int} (h : hasT (keysP xs) key = false) (h2 : kind = 6) : pairsT xs kind key val = (insT xs (posT (keysP xs) key) ⟨key, val⟩, 1, 0) := by unfold pairsT; rw [if_neg (by rw [h]; simp), if_pos h2]
theorem pairsT_ff {xs : List PairM} {kind key val : Int} (h : hasT (keysP xs) key = false) (h2 : ¬ kind = 6) : pairsT xs kind key val = (xs, 4, 0) := by unfold pairsT; rw [if_neg (by rw [h]; simp), if_neg h2]
set_option maxHeartbeats 1000000 in
set_option maxRecDepth 100000 in
theorem pairs_ok (q s m : Option Addr) (nq cq ns cs cm : Nat) (xs ys : List PairM) (kind key val rk rv : Int) (w0 : World) (hm : xs.length ≤ 1000000) (hk : kind = 6 ∨ kind = 7 ∨ kind = 8) (hr : rising (keysP xs)) (hx : RPr w0 m xs) (hT : pairsT xs kind key val = (ys, rk, rv)) :
  K.KC Try.prog 63 #[.agg #[.slice q nq cq, .slice s ns cs, .slice m xs.length cm], .agg #[K.iv kind, .int .u32 key, .int .u32 val]] w0 (fun v w' => (∃ m' c', v = .tuple #[.agg #[.slice q nq cq, .slice s ns cs, .slice m' ys.length c'], .agg #[K.iv rk, .int .u32 rv]] ∧ K.Chg K.No w0 w' ∧ K.Own w' w0.heap.size 59 2 m' ys.length c' (ys.flatMap cPair)) ∨ (ys = xs ∧ v = .tuple #[.agg #[.slice q nq cq, .slice s ns cs, .slice m xs.length cm], .agg #[K.iv rk, .int .u32 rv]] ∧ K.Chg K.No w0 w')) := by
 refine K.KC.mk (n := 66) Try.func63 rfl rfl [.agg #[.slice q nq cq, .slice s ns cs, .slice m xs.length cm], .agg #[K.iv kind, .int .u32 key, .int .u32 val]] rfl rfl ?_
 refine K.s ?_
 refine K.g ?_
 refine K.l (K.OW.new (t := 30) rfl (fun r => K.pa r) [.slice q nq cq, .slice s ns cs, .slice m xs.length cm] (by kernel_rfl) ?_)
 intro w_1 r_2 hr_3 e_4 hs_5 b_6
 have c_7 := e_4
 have z_8 := c_7.size
 have zz_9 := e_4.size
 refine K.l (K.OW.new (t := 47) rfl (fun r => K.pa r) [K.iv kind, .int .u32 key, .int .u32 val] (by kernel_rfl) ?_)
 intro w_10 r_11 hr_12 e_13 hs_14 b_15
 have c_16 := c_7.no e_13
 have z_17 := c_16.size
 have zz_18 := e_13.size
 have f_19 := b_6.no e_13
 refine K.l (K.OW.new (t := 30) rfl (fun r => K.pa r) [.slice none 0 0, .slice none 0 0, .slice none 0 0] (by kernel_rfl) ?_)
 intro w_20 r_21 hr_22 e_23 hs_24 b_25
 have c_26 := c_16.no e_23
 have z_27 := c_26.size
 have zz_28 := e_23.size
 have f_29 := f_19.no e_23
 have f_30 := b_15.no e_23
 refine K.l (K.OW.new (t := 49) rfl (fun r => K.pa r) [K.iv 0, .int .u32 0] (by kernel_rfl) ?_)
 intro w_31 r_32 hr_33 e_34 hs_35 b_36
 have c_37 := c_26.no e_34
 have z_38 := c_37.size
 have zz_39 := e_34.size
 have f_40 := f_29.no e_34
 have f_41 := f_30.no e_34
 have f_42 := b_25.no e_34
 refine K.z (K.t (K.s ?_))
 refine K.g (K.q [.pointer (some ⟨r_2, 2, none⟩)] ?_)
 refine K.d (.slice m xs.length cm) (f_40.cell rfl) ?_
 refine K.q [.pointer (some ⟨r_11, 1, none⟩)] ?_
 refine K.d (.int .u32 key) (f_41.cell rfl) ?_
 refine K.l (K.OW.call rfl [.slice m xs.length cm, .int .u32 key, .func (.func 57) [].toArray [].toArray] rfl rfl (by kernel_rfl) (findP2_ok _ _ xs key _ (by omega) (by assumption) (hx.no c_37)) ?_)
 rintro v_43 w_44 (⟨hy_45, rfl, c_46⟩ | ⟨hn_47, rfl, c_48⟩)
 ·
  have c_49 := c_37.no c_46
  have z_50 := c_49.size
  have zz_51 := c_46.size
  have f_52 := f_40.no c_46
  have f_53 := f_41.no c_46
  have f_54 := f_42.no c_46
  have f_55 := b_36.no c_46
  have hp_56 := posT_le (keysP xs) key
  have hl_57 := hasT_lt hy_45
  have hk_58 := keysP_len xs
  refine K.q [.tuple #[K.iv (((posT (keysP xs) key) : Nat) : Int), .bool true], K.iv (((posT (keysP xs) key) : Nat) : Int), .bool true, K.iv (((posT (keysP xs) key) : Nat) : Int), .bool true] (K.z (K.t (K.s ?_)))
  refine K.KW.block ?_
  refine K.s ?_
  refine K.g (K.q [.bool true, .bool true, K.pa r_11] ?_)
  refine K.d (K.iv kind) (f_53.cell rfl) ?_
  by_cases h_59 : (kind : Int) = (8 : Int)
  ·
   refine K.ye (kind : Int) (8 : Int) h_59 ?_
   refine K.q [.bool true, .bool true] (K.z (K.t (K.h (K.s ?_))))
   refine K.g (K.q [.pointer (some ⟨r_2, 2, none⟩)] ?_)
   refine K.d (.slice m xs.length cm) (f_52.cell rfl) ?_
   refine K.q [K.iv (((posT (keysP xs) key) : Nat) : Int)] ?_
   obtain ⟨b_60, of_61, rfl, _⟩ := hx.at_ (by omega)
   refine K.a (K.QR.ix (of_61 + (posT (keysP xs) key) * 2) 2 rfl rfl rfl Try.underlying28 (by kernel_rfl) (by omega) (by first | (simp; done) | omega | (simp; omega))) ?_
   refine K.q [.pointer (some ⟨b_60, of_61 + (posT (keysP xs) key) * 2 + 1, none⟩)] ?_
   refine K.d (.int .u32 ((xs.getD (posT (keysP xs) key) p0).val)) (c_49.cell (hx.ld (posT (keysP xs) key) (by omega) 1 _ rfl) id) ?_
   refine K.q [.int .u32 ((xs.getD (posT (keysP xs) key) p0).val)] (K.z (K.t (K.s ?_)))
   refine K.g (K.q [.pointer (some ⟨r_2, 2, none⟩)] ?_)
   refine K.d (.slice (some ⟨b_60, of_61, none⟩) xs.length cm) (f_52.cell rfl) ?_
   refine K.q [K.iv (((posT (keysP xs) key) : Nat) : Int)] ?_
   refine K.l (K.OW.call rfl [.slice (some ⟨b_60, of_61, none⟩) xs.length cm, K.iv (((posT (keysP xs) key) : Nat) : Int)] rfl rfl (by kernel_rfl) (woutP_ok _ _ (posT (keysP xs) key) xs _ (by omega) (by omega) (hx.no c_49)) ?_)
   rintro _ w_66 ⟨r_62, cc_63, rfl, c_64, o_65⟩
   have c_67 := c_49.no c_64
   have z_68 := c_67.size
   have zz_69 := c_64.size
   have f_70 := f_52.no c_64
   have f_71 := f_53.no c_64
   have f_72 := f_54.no c_64
   have f_73 := f_55.no c_64
   have o_74 := K.Own.mono (base' := w0.heap.size) o_65 (by omega)
   refine K.q [.pointer (some ⟨r_2, 2, none⟩)] ?_
   refine K.l (K.OW.st [.slice r_62 (xs.length - 1) cc_63] [.slice q nq cq, .slice s ns cs, .slice r_62 (xs.length - 1) cc_63] rfl rfl rfl (by kernel_rfl) f_70 rfl (K.one_cells (by rfl)) rfl rfl ?_)
   intro w_75 e_76 hs_77 b_78
   have c_79 := c_67.own e_76 (by omega)
   have z_80 := c_79.size
   have zz_81 := e_76.size
   have f_82 := f_71.chg e_76 (f_71.ne f_70 (by decide))
   have f_83 := f_72.chg e_76 (by unfold K.Is; omega)
   have f_84 := f_73.chg e_76 (f_73.ne f_70 (by decide))
   have f_85 := o_74.chg e_76 (fun k hk hy => o_74.ne_ty f_70 (by decide) k hk hy)
   refine K.z (K.t (K.s ?_))
   refine K.KW.drawn (fun w => K.Chg K.No w0 w ∧ (w.cell? ⟨r_2, 0, none⟩ = some (.slice q nq cq)) ∧ (w.cell? ⟨r_2, 1, none⟩ = some (.slice s ns cs)) ∧ (w.cell? ⟨r_2, 2, none⟩ = some (.slice r_62 (xs.length - 1) cc_63))) (by kernel_rfl) ?_
   intro w_86 e_87 hs_88
   have c_90 := c_79.no e_87
   have z_91 := c_90.size
   have zz_92 := e_87.size
   have f_93 := b_78.no e_87
   have f_94 := f_82.no e_87
   have f_95 := f_83.no e_87
   have f_96 := f_84.no e_87
   have f_97 := f_85.no e_87
   have hS_89 : (fun w => K.Chg K.No w0 w ∧ (w.cell? ⟨r_2, 0, none⟩ = some (.slice q nq cq)) ∧ (w.cell? ⟨r_2, 1, none⟩ = some (.slice s ns cs)) ∧ (w.cell? ⟨r_2, 2, none⟩ = some (.slice r_62 (xs.length - 1) cc_63))) w_86 := ⟨c_90, ((f_93).cell rfl), ((f_93).cell rfl), ((f_93).cell rfl)⟩
   refine K.m 0 rfl (fun w hS => K.QR.ldN [.slice q nq cq, .slice s ns cs, .slice r_62 (xs.length - 1) cc_63] rfl rfl (by kernel_rfl) (by kernel_rfl) (K.cells (K.cl (hS.2.1) (K.cl (hS.2.2.1) (K.cl (hS.2.2.2) K.cl0))))) hS_89 ?_
   refine K.b 1 rfl (.int .u32 ((xs.getD (posT (keysP xs) key) p0).val)) hS_89 ?_
   refine K.DW.l 2 rfl (by kernel_rfl) rfl (K.OW.call rfl [K.iv 1, .int .u32 ((xs.getD (posT (keysP xs) key) p0).val)] rfl rfl (by kernel_rfl) (result_ok 1 ((xs.getD (posT (keysP xs) key) p0).val) _) ?_)
   rintro _ w_99 ⟨rfl, c_98⟩
   have c_100 := c_90.no c_98
   have z_101 := c_100.size
   have zz_102 := c_98.size
   have f_103 := f_93.no c_98
   have f_104 := f_94.no c_98
   have f_105 := f_95.no c_98
   have f_106 := f_96.no c_98
   have f_107 := f_97.no c_98
   have hS_108 : (fun w => K.Chg K.No w0 w ∧ (w.cell? ⟨r_2, 0, none⟩ = some (.slice q nq cq)) ∧ (w.cell? ⟨r_2, 1, none⟩ = some (.slice s ns cs)) ∧ (w.cell? ⟨r_2, 2, none⟩ = some (.slice r_62 (xs.length - 1) cc_63))) w_99 := ⟨c_100, ((f_103).cell rfl), ((f_103).cell rfl), ((f_103).cell rfl)⟩
   refine ⟨.inl hS_108, ?_⟩
   refine K.DW.l 3 rfl (by kernel_rfl) rfl (K.OW.st [.slice q nq cq, .slice s ns cs, .slice r_62 (xs.length - 1) cc_63] [.slice q nq cq, .slice s ns cs, .slice r_62 (xs.length - 1) cc_63] rfl rfl rfl (by kernel_rfl) f_105 rfl (K.one_cells (by rfl)) rfl rfl ?_)
   intro w_109 e_110 hs_111 b_112
   have c_113 := c_100.own e_110 (by omega)
   have z_114 := c_113.size
   have zz_115 := e_110.size
   have f_116 := f_103.chg e_110 (by unfold K.Is; omega)
   have f_117 := f_104.chg e_110 (f_104.ne f_105 (by decide))
   have f_118 := f_106.chg e_110 (f_106.ne f_105 (by decide))
   have f_119 := f_107.chg e_110 (fun k hk hy => f_107.ne_ty f_105 (by decide) k hk hy)
   have hS_120 : (fun w => K.Chg K.No w0 w ∧ (w.cell? ⟨r_2, 0, none⟩ = some (.slice q nq cq)) ∧ (w.cell? ⟨r_2, 1, none⟩ = some (.slice s ns cs)) ∧ (w.cell? ⟨r_2, 2, none⟩ = some (.slice r_62 (xs.length - 1) cc_63))) w_109 := ⟨c_113, ((f_116).cell rfl), ((f_116).cell rfl), ((f_116).cell rfl)⟩
   refine ⟨.inl hS_120, ?_⟩
   refine K.DW.l 4 rfl (by kernel_rfl) rfl (K.OW.st [K.iv 1, .int .u32 ((xs.getD (posT (keysP xs) key) p0).val)] [K.iv 1, .int .u32 ((xs.getD (posT (keysP xs) key) p0).val)] rfl rfl rfl (by kernel_rfl) f_118 rfl (K.one_cells (by rfl)) rfl rfl ?_)
   intro w_121 e_122 hs_123 b_124
   have c_125 := c_113.own e_122 (by omega)
   have z_126 := c_125.size
   have zz_127 := e_122.size
   have f_128 := f_116.chg e_122 (f_116.ne f_118 (by decide))
   have f_129 := f_117.chg e_122 (f_117.ne f_118 (by decide))
   have f_130 := b_112.chg e_122 (b_112.ne f_118 (by decide))
   have f_131 := f_119.chg e_122 (fun k hk hy => f_119.ne_ty f_118 (by decide) k hk hy)
   refine ⟨.inr (by kernel_rfl), ?_⟩
   refine K.DW.done (by kernel_rfl) ?_
   refine K.t (K.r ?_)
   refine K.blk_ret ?_
   refine K.u ?_
   refine ⟨.inr rfl, rfl, (.tuple #[.agg #[.slice q nq cq, .slice s ns cs, .slice r_62 (xs.length - 1) cc_63], .agg #[K.iv 1, .int .u32 ((xs.getD (posT (keysP xs) key) p0).val)]]), K.resAt (rs := [.cell 4 30, .cell 5 49]) [.agg #[.slice q nq cq, .slice s ns cs, .slice r_62 (xs.length - 1) cc_63], .agg #[K.iv 1, .int .u32 ((xs.getD (posT (keysP xs) key) p0).val)]] rfl ⟨⟨_, rfl, K.lvN [.slice q nq cq, .slice s ns cs, .slice r_62 (xs.length - 1) cc_63] (by kernel_rfl) (by kernel_rfl) (K.cells (K.cl (f_130.cell rfl) (K.cl (f_130.cell rfl) (K.cl (f_130.cell rfl) K.cl0))))⟩, ⟨_, rfl, K.lvN [K.iv 1, .int .u32 ((xs.getD (posT (keysP xs) key) p0).val)] (by kernel_rfl) (by kernel_rfl) (K.cells (K.cl (b_124.cell rfl) (K.cl (b_124.cell rfl) K.cl0)))⟩, trivial⟩, ?_⟩
   rw [pairsT_tt (by assumption) (by assumption : (kind : Int) = (8 : Int))] at hT
   simp only [Prod.mk.injEq] at hT
   obtain ⟨rfl, rfl, rfl⟩ := hT
   have hln := delT_len (xs := xs) (i := posT (keysP xs) key) (by omega)
   rw [hln]
   exact .inl ⟨_, _, rfl, c_125, f_131⟩
  ·
   refine K.xe (kind : Int) (8 : Int) h_59 ?_
   refine K.q [.bool false, .bool false] (K.z (K.t (K.f (K.s ?_))))
   refine K.g (K.q [.bool true, .bool true] (K.z (K.t (K.h (K.s ?_)))))
   obtain ⟨b_133, of_134, rfl, _⟩ := hx.at_ (by omega)
   refine K.KW.drawn (fun w => K.Chg K.No w0 w ∧ (w.cell? ⟨r_2, 0, none⟩ = some (.slice q nq cq)) ∧ (w.cell? ⟨r_2, 1, none⟩ = some (.slice s ns cs)) ∧ (w.cell? ⟨r_2, 2, none⟩ = some (.slice (some ⟨b_133, of_134, none⟩) xs.length cm))) (by kernel_rfl) ?_
   intro w_135 e_136 hs_137
   have c_139 := c_49.no e_136
   have z_140 := c_139.size
   have zz_141 := e_136.size
   have f_142 := f_52.no e_136
   have f_143 := f_53.no e_136
   have f_144 := f_54.no e_136
   have f_145 := f_55.no e_136
   have hS_138 : (fun w => K.Chg K.No w0 w ∧ (w.cell? ⟨r_2, 0, none⟩ = some (.slice q nq cq)) ∧ (w.cell? ⟨r_2, 1, none⟩ = some (.slice s ns cs)) ∧ (w.cell? ⟨r_2, 2, none⟩ = some (.slice (some ⟨b_133, of_134, none⟩) xs.length cm))) w_135 := ⟨c_139, ((f_142).cell rfl), ((f_142).cell rfl), ((f_142).cell rfl)⟩
   refine K.m 0 rfl (fun w hS => K.QR.ldN [.slice q nq cq, .slice s ns cs, .slice (some ⟨b_133, of_134, none⟩) xs.length cm] rfl rfl (by kernel_rfl) (by kernel_rfl) (K.cells (K.cl (hS.2.1) (K.cl (hS.2.2.1) (K.cl (hS.2.2.2) K.cl0))))) hS_138 ?_
   refine K.p 1 rfl (.pointer (some ⟨r_2, 2, none⟩)) hS_138 ?_
   refine K.o_ 2 rfl (.slice (some ⟨b_133, of_134, none⟩) xs.length cm) (fun w hS => (hS.2.2.2)) hS_138 ?_
   refine K.b 3 rfl (K.iv (((posT (keysP xs) key) : Nat) : Int)) hS_138 ?_
   refine K.c 4 rfl (K.QR.ix (of_134 + (posT (keysP xs) key) * 2) 2 rfl rfl rfl Try.underlying28 (by kernel_rfl) (by omega) (by first | (simp; done) | omega | (simp; omega))) hS_138 ?_
   refine K.b 5 rfl (.pointer (some ⟨b_133, of_134 + (posT (keysP xs) key) * 2 + 1, none⟩)) hS_138 ?_
   refine K.c 6 rfl (K.QR.ld1 (v := .int .u32 ((xs.getD (posT (keysP xs) key) p0).val)) rfl rfl (by kernel_rfl) (c_139.cell (hx.ld (posT (keysP xs) key) (by omega) 1 _ rfl) id)) hS_138 ?_
   refine K.DW.l 7 rfl (by kernel_rfl) rfl (K.OW.call rfl [K.iv 3, .int .u32 ((xs.getD (posT (keysP xs) key) p0).val)] rfl rfl (by kernel_rfl) (result_ok 3 ((xs.getD (posT (keysP xs) key) p0).val) _) ?_)
   rintro _ w_147 ⟨rfl, c_146⟩
   have c_148 := c_139.no c_146
   have z_149 := c_148.size
   have zz_150 := c_146.size
   have f_151 := f_142.no c_146
   have f_152 := f_143.no c_146
   have f_153 := f_144.no c_146
   have f_154 := f_145.no c_146
   have hS_155 : (fun w => K.Chg K.No w0 w ∧ (w.cell? ⟨r_2, 0, none⟩ = some (.slice q nq cq)) ∧ (w.cell? ⟨r_2, 1, none⟩ = some (.slice s ns cs)) ∧ (w.cell? ⟨r_2, 2, none⟩ = some (.slice (some ⟨b_133, of_134, none⟩) xs.length cm))) w_147 := ⟨c_148, ((f_151).cell rfl), ((f_151).cell rfl), ((f_151).cell rfl)⟩
   refine ⟨.inl hS_155, ?_⟩
   refine K.DW.l 8 rfl (by kernel_rfl) rfl (K.OW.st [.slice q nq cq, .slice s ns cs, .slice (some ⟨b_133, of_134, none⟩) xs.length cm] [.slice q nq cq, .slice s ns cs, .slice (some ⟨b_133, of_134, none⟩) xs.length cm] rfl rfl rfl (by kernel_rfl) f_153 rfl (K.one_cells (by rfl)) rfl rfl ?_)
   intro w_156 e_157 hs_158 b_159
   have c_160 := c_148.own e_157 (by omega)
   have z_161 := c_160.size
   have zz_162 := e_157.size
   have f_163 := f_151.chg e_157 (by unfold K.Is; omega)
   have f_164 := f_152.chg e_157 (f_152.ne f_153 (by decide))
   have f_165 := f_154.chg e_157 (f_154.ne f_153 (by decide))
   have hS_166 : (fun w => K.Chg K.No w0 w ∧ (w.cell? ⟨r_2, 0, none⟩ = some (.slice q nq cq)) ∧ (w.cell? ⟨r_2, 1, none⟩ = some (.slice s ns cs)) ∧ (w.cell? ⟨r_2, 2, none⟩ = some (.slice (some ⟨b_133, of_134, none⟩) xs.length cm))) w_156 := ⟨c_160, ((f_163).cell rfl), ((f_163).cell rfl), ((f_163).cell rfl)⟩
   refine ⟨.inl hS_166, ?_⟩
   refine K.DW.l 9 rfl (by kernel_rfl) rfl (K.OW.st [K.iv 3, .int .u32 ((xs.getD (posT (keysP xs) key) p0).val)] [K.iv 3, .int .u32 ((xs.getD (posT (keysP xs) key) p0).val)] rfl rfl rfl (by kernel_rfl) f_165 rfl (K.one_cells (by rfl)) rfl rfl ?_)
   intro w_167 e_168 hs_169 b_170
   have c_171 := c_160.own e_168 (by omega)
   have z_172 := c_171.size
   have zz_173 := e_168.size
   have f_174 := f_163.chg e_168 (f_163.ne f_165 (by decide))
   have f_175 := f_164.chg e_168 (f_164.ne f_165 (by decide))
   have f_176 := b_159.chg e_168 (b_159.ne f_165 (by decide))
   refine ⟨.inr (by kernel_rfl), ?_⟩
   refine K.DW.done (by kernel_rfl) ?_
   refine K.t (K.r ?_)
   refine K.blk_ret ?_
   refine K.u ?_
   refine ⟨.inr rfl, rfl, (.tuple #[.agg #[.slice q nq cq, .slice s ns cs, .slice (some ⟨b_133, of_134, none⟩) xs.length cm], .agg #[K.iv 3, .int .u32 ((xs.getD (posT (keysP xs) key) p0).val)]]), K.resAt (rs := [.cell 4 30, .cell 5 49]) [.agg #[.slice q nq cq, .slice s ns cs, .slice (some ⟨b_133, of_134, none⟩) xs.length cm], .agg #[K.iv 3, .int .u32 ((xs.getD (posT (keysP xs) key) p0).val)]] rfl ⟨⟨_, rfl, K.lvN [.slice q nq cq, .slice s ns cs, .slice (some ⟨b_133, of_134, none⟩) xs.length cm] (by kernel_rfl) (by kernel_rfl) (K.cells (K.cl (f_176.cell rfl) (K.cl (f_176.cell rfl) (K.cl (f_176.cell rfl) K.cl0))))⟩, ⟨_, rfl, K.lvN [K.iv 3, .int .u32 ((xs.getD (posT (keysP xs) key) p0).val)] (by kernel_rfl) (by kernel_rfl) (K.cells (K.cl (b_170.cell rfl) (K.cl (b_170.cell rfl) K.cl0)))⟩, trivial⟩, ?_⟩
   first | (rw [pairsT_tf (by assumption) (by assumption)] at hT; simp only [Prod.mk.injEq] at hT; obtain ⟨rfl, rfl, rfl⟩ := hT; exact .inr ⟨rfl, rfl, c_171⟩) | (rw [pairsT_ff (by assumption) (by assumption)] at hT; simp only [Prod.mk.injEq] at hT; obtain ⟨rfl, rfl, rfl⟩ := hT; exact .inr ⟨rfl, rfl, c_171⟩)
 ·
  have c_178 := c_37.no c_48
  have z_179 := c_178.size
  have zz_180 := c_48.size
  have f_181 := f_40.no c_48
  have f_182 := f_41.no c_48
  have f_183 := f_42.no c_48
  have f_184 := b_36.no c_48
  have hp_185 := posT_le (keysP xs) key
  have hk_186 := keysP_len xs
  refine K.q [.tuple #[K.iv (((posT (keysP xs) key) : Nat) : Int), .bool false], K.iv (((posT (keysP xs) key) : Nat) : Int), .bool false, K.iv (((posT (keysP xs) key) : Nat) : Int), .bool false] (K.z (K.t (K.s ?_)))
  refine K.KW.block ?_
  refine K.s ?_
  refine K.g (K.q [.bool false, .bool false] (K.n_ (K.n_ (K.n_ (K.q [.bool false, .bool false] (K.z (K.t (K.f (K.s ?_)))))))))
  refine K.g (K.q [.bool false, .bool false] (K.z (K.t (K.f (K.s ?_)))))
  refine K.g (K.q [K.pa r_11] ?_)
  refine K.d (K.iv kind) (f_182.cell rfl) ?_
  by_cases h_187 : (kind : Int) = (6 : Int)
  ·
   refine K.xn (kind : Int) (6 : Int) h_187 ?_
   refine K.q [.bool false] (K.z (K.t (K.f (K.k ?_))))
   refine K.blk_normal ?_
   refine K.t (K.s ?_)
   refine K.g (K.q [.pointer (some ⟨r_2, 2, none⟩)] ?_)
   refine K.d (.slice m xs.length cm) (f_181.cell rfl) ?_
   refine K.q [K.iv (((posT (keysP xs) key) : Nat) : Int), .pointer (some ⟨r_11, 1, none⟩)] ?_
   refine K.d (.int .u32 key) (f_182.cell rfl) ?_
   refine K.q [.pointer (some ⟨r_11, 2, none⟩)] ?_
   refine K.d (.int .u32 val) (f_182.cell rfl) ?_
   refine K.a (K.QR.bd [(0, .int .u32 key), (1, .int .u32 val)] [.int .u32 key, .int .u32 val] rfl rfl (by kernel_rfl)) ?_
   refine K.l (K.OW.call rfl [.slice m xs.length cm, K.iv (((posT (keysP xs) key) : Nat) : Int), .agg #[.int .u32 key, .int .u32 val]] rfl rfl (by kernel_rfl) (withP_ok _ _ (posT (keysP xs) key) xs ⟨key, val⟩ _ (by omega) (by omega) (hx.no c_178)) ?_)
   rintro _ w_192 ⟨r_188, cc_189, rfl, c_190, o_191⟩
   have c_193 := c_178.no c_190
   have z_194 := c_193.size
   have zz_195 := c_190.size
   have f_196 := f_181.no c_190
   have f_197 := f_182.no c_190
   have f_198 := f_183.no c_190
   have f_199 := f_184.no c_190
   have o_200 := K.Own.mono (base' := w0.heap.size) o_191 (by omega)
   refine K.q [.pointer (some ⟨r_2, 2, none⟩)] ?_
   refine K.l (K.OW.st [.slice r_188 (xs.length + 1) cc_189] [.slice q nq cq, .slice s ns cs, .slice r_188 (xs.length + 1) cc_189] rfl rfl rfl (by kernel_rfl) f_196 rfl (K.one_cells (by rfl)) rfl rfl ?_)
   intro w_201 e_202 hs_203 b_204
   have c_205 := c_193.own e_202 (by omega)
   have z_206 := c_205.size
   have zz_207 := e_202.size
   have f_208 := f_197.chg e_202 (f_197.ne f_196 (by decide))
   have f_209 := f_198.chg e_202 (by unfold K.Is; omega)
   have f_210 := f_199.chg e_202 (f_199.ne f_196 (by decide))
   have f_211 := o_200.chg e_202 (fun k hk hy => o_200.ne_ty f_196 (by decide) k hk hy)
   refine K.z (K.t (K.s ?_))
   refine K.KW.drawn (fun w => K.Chg K.No w0 w ∧ (w.cell? ⟨r_2, 0, none⟩ = some (.slice q nq cq)) ∧ (w.cell? ⟨r_2, 1, none⟩ = some (.slice s ns cs)) ∧ (w.cell? ⟨r_2, 2, none⟩ = some (.slice r_188 (xs.length + 1) cc_189))) (by kernel_rfl) ?_
   intro w_212 e_213 hs_214
   have c_216 := c_205.no e_213
   have z_217 := c_216.size
   have zz_218 := e_213.size
   have f_219 := b_204.no e_213
   have f_220 := f_208.no e_213
   have f_221 := f_209.no e_213
   have f_222 := f_210.no e_213
   have f_223 := f_211.no e_213
   have hS_215 : (fun w => K.Chg K.No w0 w ∧ (w.cell? ⟨r_2, 0, none⟩ = some (.slice q nq cq)) ∧ (w.cell? ⟨r_2, 1, none⟩ = some (.slice s ns cs)) ∧ (w.cell? ⟨r_2, 2, none⟩ = some (.slice r_188 (xs.length + 1) cc_189))) w_212 := ⟨c_216, ((f_219).cell rfl), ((f_219).cell rfl), ((f_219).cell rfl)⟩
   refine K.m 0 rfl (fun w hS => K.QR.ldN [.slice q nq cq, .slice s ns cs, .slice r_188 (xs.length + 1) cc_189] rfl rfl (by kernel_rfl) (by kernel_rfl) (K.cells (K.cl (hS.2.1) (K.cl (hS.2.2.1) (K.cl (hS.2.2.2) K.cl0))))) hS_215 ?_
   refine K.DW.l 1 rfl (by kernel_rfl) rfl (K.OW.call rfl [K.iv 1, .int .u32 0] rfl rfl (by kernel_rfl) (result_ok 1 0 _) ?_)
   rintro _ w_225 ⟨rfl, c_224⟩
   have c_226 := c_216.no c_224
   have z_227 := c_226.size
   have zz_228 := c_224.size
   have f_229 := f_219.no c_224
   have f_230 := f_220.no c_224
   have f_231 := f_221.no c_224
   have f_232 := f_222.no c_224
   have f_233 := f_223.no c_224
   have hS_234 : (fun w => K.Chg K.No w0 w ∧ (w.cell? ⟨r_2, 0, none⟩ = some (.slice q nq cq)) ∧ (w.cell? ⟨r_2, 1, none⟩ = some (.slice s ns cs)) ∧ (w.cell? ⟨r_2, 2, none⟩ = some (.slice r_188 (xs.length + 1) cc_189))) w_225 := ⟨c_226, ((f_229).cell rfl), ((f_229).cell rfl), ((f_229).cell rfl)⟩
   refine ⟨.inl hS_234, ?_⟩
   refine K.DW.l 2 rfl (by kernel_rfl) rfl (K.OW.st [.slice q nq cq, .slice s ns cs, .slice r_188 (xs.length + 1) cc_189] [.slice q nq cq, .slice s ns cs, .slice r_188 (xs.length + 1) cc_189] rfl rfl rfl (by kernel_rfl) f_231 rfl (K.one_cells (by rfl)) rfl rfl ?_)
   intro w_235 e_236 hs_237 b_238
   have c_239 := c_226.own e_236 (by omega)
   have z_240 := c_239.size
   have zz_241 := e_236.size
   have f_242 := f_229.chg e_236 (by unfold K.Is; omega)
   have f_243 := f_230.chg e_236 (f_230.ne f_231 (by decide))
   have f_244 := f_232.chg e_236 (f_232.ne f_231 (by decide))
   have f_245 := f_233.chg e_236 (fun k hk hy => f_233.ne_ty f_231 (by decide) k hk hy)
   have hS_246 : (fun w => K.Chg K.No w0 w ∧ (w.cell? ⟨r_2, 0, none⟩ = some (.slice q nq cq)) ∧ (w.cell? ⟨r_2, 1, none⟩ = some (.slice s ns cs)) ∧ (w.cell? ⟨r_2, 2, none⟩ = some (.slice r_188 (xs.length + 1) cc_189))) w_235 := ⟨c_239, ((f_242).cell rfl), ((f_242).cell rfl), ((f_242).cell rfl)⟩
   refine ⟨.inl hS_246, ?_⟩
   refine K.DW.l 3 rfl (by kernel_rfl) rfl (K.OW.st [K.iv 1, .int .u32 0] [K.iv 1, .int .u32 0] rfl rfl rfl (by kernel_rfl) f_244 rfl (K.one_cells (by rfl)) rfl rfl ?_)
   intro w_247 e_248 hs_249 b_250
   have c_251 := c_239.own e_248 (by omega)
   have z_252 := c_251.size
   have zz_253 := e_248.size
   have f_254 := f_242.chg e_248 (f_242.ne f_244 (by decide))
   have f_255 := f_243.chg e_248 (f_243.ne f_244 (by decide))
   have f_256 := b_238.chg e_248 (b_238.ne f_244 (by decide))
   have f_257 := f_245.chg e_248 (fun k hk hy => f_245.ne_ty f_244 (by decide) k hk hy)
   refine ⟨.inr (by kernel_rfl), ?_⟩
   refine K.DW.done (by kernel_rfl) ?_
   refine K.t (K.r ?_)
   refine ⟨.inr rfl, rfl, (.tuple #[.agg #[.slice q nq cq, .slice s ns cs, .slice r_188 (xs.length + 1) cc_189], .agg #[K.iv 1, .int .u32 0]]), K.resAt (rs := [.cell 4 30, .cell 5 49]) [.agg #[.slice q nq cq, .slice s ns cs, .slice r_188 (xs.length + 1) cc_189], .agg #[K.iv 1, .int .u32 0]] rfl ⟨⟨_, rfl, K.lvN [.slice q nq cq, .slice s ns cs, .slice r_188 (xs.length + 1) cc_189] (by kernel_rfl) (by kernel_rfl) (K.cells (K.cl (f_256.cell rfl) (K.cl (f_256.cell rfl) (K.cl (f_256.cell rfl) K.cl0))))⟩, ⟨_, rfl, K.lvN [K.iv 1, .int .u32 0] (by kernel_rfl) (by kernel_rfl) (K.cells (K.cl (b_250.cell rfl) (K.cl (b_250.cell rfl) K.cl0)))⟩, trivial⟩, ?_⟩
   rw [pairsT_ft (by assumption) (by assumption : (kind : Int) = (6 : Int))] at hT
   simp only [Prod.mk.injEq] at hT
   obtain ⟨rfl, rfl, rfl⟩ := hT
   have hln := insT_len (xs := xs) (i := posT (keysP xs) key) (x := (⟨key, val⟩ : PairM)) (by omega)
   rw [hln]
   exact .inl ⟨_, _, rfl, c_251, f_257⟩
  ·
   refine K.yn (kind : Int) (6 : Int) h_187 ?_
   refine K.q [.bool true] (K.z (K.t (K.h (K.s ?_))))
   refine K.KW.drawn (fun w => K.Chg K.No w0 w ∧ (w.cell? ⟨r_2, 0, none⟩ = some (.slice q nq cq)) ∧ (w.cell? ⟨r_2, 1, none⟩ = some (.slice s ns cs)) ∧ (w.cell? ⟨r_2, 2, none⟩ = some (.slice m xs.length cm))) (by kernel_rfl) ?_
   intro w_259 e_260 hs_261
   have c_263 := c_178.no e_260
   have z_264 := c_263.size
   have zz_265 := e_260.size
   have f_266 := f_181.no e_260
   have f_267 := f_182.no e_260
   have f_268 := f_183.no e_260
   have f_269 := f_184.no e_260
   have hS_262 : (fun w => K.Chg K.No w0 w ∧ (w.cell? ⟨r_2, 0, none⟩ = some (.slice q nq cq)) ∧ (w.cell? ⟨r_2, 1, none⟩ = some (.slice s ns cs)) ∧ (w.cell? ⟨r_2, 2, none⟩ = some (.slice m xs.length cm))) w_259 := ⟨c_263, ((f_266).cell rfl), ((f_266).cell rfl), ((f_266).cell rfl)⟩
   refine K.m 0 rfl (fun w hS => K.QR.ldN [.slice q nq cq, .slice s ns cs, .slice m xs.length cm] rfl rfl (by kernel_rfl) (by kernel_rfl) (K.cells (K.cl (hS.2.1) (K.cl (hS.2.2.1) (K.cl (hS.2.2.2) K.cl0))))) hS_262 ?_
   refine K.DW.l 1 rfl (by kernel_rfl) rfl (K.OW.call rfl [K.iv 4, .int .u32 0] rfl rfl (by kernel_rfl) (result_ok 4 0 _) ?_)
   rintro _ w_271 ⟨rfl, c_270⟩
   have c_272 := c_263.no c_270
   have z_273 := c_272.size
   have zz_274 := c_270.size
   have f_275 := f_266.no c_270
   have f_276 := f_267.no c_270
   have f_277 := f_268.no c_270
   have f_278 := f_269.no c_270
   have hS_279 : (fun w => K.Chg K.No w0 w ∧ (w.cell? ⟨r_2, 0, none⟩ = some (.slice q nq cq)) ∧ (w.cell? ⟨r_2, 1, none⟩ = some (.slice s ns cs)) ∧ (w.cell? ⟨r_2, 2, none⟩ = some (.slice m xs.length cm))) w_271 := ⟨c_272, ((f_275).cell rfl), ((f_275).cell rfl), ((f_275).cell rfl)⟩
   refine ⟨.inl hS_279, ?_⟩
   refine K.DW.l 2 rfl (by kernel_rfl) rfl (K.OW.st [.slice q nq cq, .slice s ns cs, .slice m xs.length cm] [.slice q nq cq, .slice s ns cs, .slice m xs.length cm] rfl rfl rfl (by kernel_rfl) f_277 rfl (K.one_cells (by rfl)) rfl rfl ?_)
   intro w_280 e_281 hs_282 b_283
   have c_284 := c_272.own e_281 (by omega)
   have z_285 := c_284.size
   have zz_286 := e_281.size
   have f_287 := f_275.chg e_281 (by unfold K.Is; omega)
   have f_288 := f_276.chg e_281 (f_276.ne f_277 (by decide))
   have f_289 := f_278.chg e_281 (f_278.ne f_277 (by decide))
   have hS_290 : (fun w => K.Chg K.No w0 w ∧ (w.cell? ⟨r_2, 0, none⟩ = some (.slice q nq cq)) ∧ (w.cell? ⟨r_2, 1, none⟩ = some (.slice s ns cs)) ∧ (w.cell? ⟨r_2, 2, none⟩ = some (.slice m xs.length cm))) w_280 := ⟨c_284, ((f_287).cell rfl), ((f_287).cell rfl), ((f_287).cell rfl)⟩
   refine ⟨.inl hS_290, ?_⟩
   refine K.DW.l 3 rfl (by kernel_rfl) rfl (K.OW.st [K.iv 4, .int .u32 0] [K.iv 4, .int .u32 0] rfl rfl rfl (by kernel_rfl) f_289 rfl (K.one_cells (by rfl)) rfl rfl ?_)
   intro w_291 e_292 hs_293 b_294
   have c_295 := c_284.own e_292 (by omega)
   have z_296 := c_295.size
   have zz_297 := e_292.size
   have f_298 := f_287.chg e_292 (f_287.ne f_289 (by decide))
   have f_299 := f_288.chg e_292 (f_288.ne f_289 (by decide))
   have f_300 := b_283.chg e_292 (b_283.ne f_289 (by decide))
   refine ⟨.inr (by kernel_rfl), ?_⟩
   refine K.DW.done (by kernel_rfl) ?_
   refine K.t (K.r ?_)
   refine K.blk_ret ?_
   refine K.u ?_
   refine ⟨.inr rfl, rfl, (.tuple #[.agg #[.slice q nq cq, .slice s ns cs, .slice m xs.length cm], .agg #[K.iv 4, .int .u32 0]]), K.resAt (rs := [.cell 4 30, .cell 5 49]) [.agg #[.slice q nq cq, .slice s ns cs, .slice m xs.length cm], .agg #[K.iv 4, .int .u32 0]] rfl ⟨⟨_, rfl, K.lvN [.slice q nq cq, .slice s ns cs, .slice m xs.length cm] (by kernel_rfl) (by kernel_rfl) (K.cells (K.cl (f_300.cell rfl) (K.cl (f_300.cell rfl) (K.cl (f_300.cell rfl) K.cl0))))⟩, ⟨_, rfl, K.lvN [K.iv 4, .int .u32 0] (by kernel_rfl) (by kernel_rfl) (K.cells (K.cl (b_294.cell rfl) (K.cl (b_294.cell rfl) K.cl0)))⟩, trivial⟩, ?_⟩
   first | (rw [pairsT_tf (by assumption) (by assumption)] at hT; simp only [Prod.mk.injEq] at hT; obtain ⟨rfl, rfl, rfl⟩ := hT; exact .inr ⟨rfl, rfl, c_295⟩) | (rw [pairsT_ff (by assumption) (by assumption)] at hT; simp only [Prod.mk.injEq] at hT; obtain ⟨rfl, rfl, rfl⟩ := hT; exact .inr ⟨rfl, rfl, c_295⟩)
def risingB (ks : List Int) : Bool := (List.range (ks.length - 1)).all fun i => decide (ks.getD i 0 < ks.getD (i + 1) 0)
theorem rising_lit {ks : List Int} (h : risingB ks = true) : rising ks := fun i hi => by
 have := List.all_eq_true.1 h i (List.mem_range.2 (by omega))
 exact of_decide_eq_true this
end Go.Proofs.Ytnehocjmgnhhhaa
