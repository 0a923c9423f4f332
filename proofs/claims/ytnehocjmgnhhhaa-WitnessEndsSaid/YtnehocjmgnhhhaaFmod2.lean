import Derived.Test.YtnehocjmgnhhhaaFms
import Derived.Test.YtnehocjmgnhhhaaKn
/- package model: set, queue. -/
namespace Go.Proofs.Ytnehocjmgnhhhaa
open Go.RowKit
set_option linter.unusedVariables false
attribute [local irreducible] K.KW K.RW K.DW K.OW K.QR K.KC
def setT (xs : List Int) (kind key : Int) : List Int × Int :=
 if hasT xs key = true then (if kind = 4 then (delT xs (posT xs key), 1) else (xs, 3))
 else if kind = 3 then (insT xs (posT xs key) key, 1) else (xs, 4)
theorem setT_tt {xs : List Int} {kind key : Int} (h : hasT xs key = true) (h2 : kind = 4) : setT xs kind key = (delT xs (posT xs key), 1) := by unfold setT; rw [if_pos h, if_pos h2]
theorem setT_tf {xs : List Int} {kind key : Int} (h : hasT xs key = true) (h2 : ¬ kind = 4) : setT xs kind key = (xs, 3) := by unfold setT; rw [if_pos h, if_neg h2]
theorem setT_ft {xs : List Int} {kind key : Int} (h : hasT xs key = false) (h2 : kind = 3) : setT xs kind key = (insT xs (posT xs key) key, 1) := by unfold setT; rw [if_neg (by rw [h]; simp), if_pos h2]
theorem setT_ff {xs : List Int} {kind key : Int} (h : hasT xs key = false) (h2 : ¬ kind = 3) : setT xs kind key = (xs, 4) := by unfold setT; rw [if_neg (by rw [h]; simp), if_neg h2]
def queueT (xs : List Int) (kind val : Int) : List Int × Int × Int :=
 if kind = 1 then (insT xs xs.length val, 1, 0) else if xs.length = 0 then (xs, 2, 0) else (delT xs 0, 1, xs.getD 0 0)
set_option maxHeartbeats 1000000 in
set_option maxRecDepth 100000 in
theorem set_ok (q s m : Option Addr) (nq cq cs nm cm : Nat) (xs ys : List Int) (kind key val rk : Int) (w0 : World) (hm : xs.length ≤ 1000000) (hr : rising xs) (hx : RU32 w0 s xs) (hT : setT xs kind key = (ys, rk)) :
  K.KC Try.prog 62 #[.agg #[.slice q nq cq, .slice s xs.length cs, .slice m nm cm], .agg #[K.iv kind, .int .u32 key, .int .u32 val]] w0 (fun v w' => (∃ a' c', v = .tuple #[.agg #[.slice q nq cq, .slice a' ys.length c', .slice m nm cm], .agg #[K.iv rk, .int .u32 0]] ∧ K.Chg K.No w0 w' ∧ K.Own w' w0.heap.size 45 1 a' ys.length c' (ys.flatMap cU32)) ∨ (ys = xs ∧ v = .tuple #[.agg #[.slice q nq cq, .slice s xs.length cs, .slice m nm cm], .agg #[K.iv rk, .int .u32 0]] ∧ K.Chg K.No w0 w')) := by
 refine K.KC.mk (n := 49) Try.func62 rfl rfl [.agg #[.slice q nq cq, .slice s xs.length cs, .slice m nm cm], .agg #[K.iv kind, .int .u32 key, .int .u32 val]] rfl rfl ?_
 refine K.s ?_
 refine K.g ?_
 refine K.l (K.OW.new (t := 30) rfl (fun r => K.pa r) [.slice q nq cq, .slice s xs.length cs, .slice m nm cm] (by kernel_rfl) ?_)
 intro w_1 r_2 hr_3 e_4 hs_5 b_6
 have c_7 := e_4
 have z_8 := c_7.size
 have zz_9 := e_4.size
 refine K.l (K.OW.new (t := 47) rfl (fun r => K.pa r) [K.iv kind, .int .u32 key, .int .u32 val] (by kernel_rfl) ?_)
 intro w_10 r_11 hr_12 e_13 hs_14 b_15
 have c_16 := c_7.no e_13
 have z_17 := c_16.size
 have zz_18 := e_13.size
 have f_19 := b_6.no e_13
 refine K.l (K.OW.new (t := 30) rfl (fun r => K.pa r) [.slice none 0 0, .slice none 0 0, .slice none 0 0] (by kernel_rfl) ?_)
 intro w_20 r_21 hr_22 e_23 hs_24 b_25
 have c_26 := c_16.no e_23
 have z_27 := c_26.size
 have zz_28 := e_23.size
 have f_29 := f_19.no e_23
 have f_30 := b_15.no e_23
 refine K.l (K.OW.new (t := 49) rfl (fun r => K.pa r) [K.iv 0, .int .u32 0] (by kernel_rfl) ?_)
 intro w_31 r_32 hr_33 e_34 hs_35 b_36
 have c_37 := c_26.no e_34
 have z_38 := c_37.size
 have zz_39 := e_34.size
 have f_40 := f_29.no e_34
 have f_41 := f_30.no e_34
 have f_42 := b_25.no e_34
 refine K.z (K.t (K.s ?_))
 refine K.g (K.q [.pointer (some ⟨r_2, 1, none⟩)] ?_)
 refine K.d (.slice s xs.length cs) (f_40.cell rfl) ?_
 refine K.q [.pointer (some ⟨r_11, 1, none⟩)] ?_
 refine K.d (.int .u32 key) (f_41.cell rfl) ?_
 refine K.l (K.OW.call rfl [.slice s xs.length cs, .int .u32 key, .func (.func 55) [].toArray [].toArray] rfl rfl (by kernel_rfl) (findU2_ok _ _ xs key _ (by omega) (by assumption) (hx.no c_37)) ?_)
 rintro v_43 w_44 (⟨hy_45, rfl, c_46⟩ | ⟨hn_47, rfl, c_48⟩)
 ·
  have c_49 := c_37.no c_46
  have z_50 := c_49.size
  have zz_51 := c_46.size
  have f_52 := f_40.no c_46
  have f_53 := f_41.no c_46
  have f_54 := f_42.no c_46
  have f_55 := b_36.no c_46
  have hp_56 := posT_le xs key
  have hl_57 := hasT_lt hy_45
  refine K.q [.tuple #[K.iv (((posT xs key) : Nat) : Int), .bool true], K.iv (((posT xs key) : Nat) : Int), .bool true, K.iv (((posT xs key) : Nat) : Int), .bool true] (K.z (K.t (K.s ?_)))
  refine K.KW.block ?_
  refine K.s ?_
  refine K.g (K.q [.bool true, .bool true, K.pa r_11] ?_)
  refine K.d (K.iv kind) (f_53.cell rfl) ?_
  by_cases h_58 : (kind : Int) = (4 : Int)
  ·
   refine K.ye (kind : Int) (4 : Int) h_58 ?_
   refine K.q [.bool true, .bool true] (K.z (K.t (K.h (K.s ?_))))
   refine K.g (K.q [.pointer (some ⟨r_2, 1, none⟩)] ?_)
   refine K.d (.slice s xs.length cs) (f_52.cell rfl) ?_
   refine K.q [K.iv (((posT xs key) : Nat) : Int)] ?_
   refine K.l (K.OW.call rfl [.slice s xs.length cs, K.iv (((posT xs key) : Nat) : Int)] rfl rfl (by kernel_rfl) (woutU_ok _ _ (posT xs key) xs _ (by omega) (by omega) (hx.no c_49)) ?_)
   rintro _ w_63 ⟨r_59, cc_60, rfl, c_61, o_62⟩
   have c_64 := c_49.no c_61
   have z_65 := c_64.size
   have zz_66 := c_61.size
   have f_67 := f_52.no c_61
   have f_68 := f_53.no c_61
   have f_69 := f_54.no c_61
   have f_70 := f_55.no c_61
   have o_71 := K.Own.mono (base' := w0.heap.size) o_62 (by omega)
   refine K.q [.pointer (some ⟨r_2, 1, none⟩)] ?_
   refine K.l (K.OW.st [.slice r_59 (xs.length - 1) cc_60] [.slice q nq cq, .slice r_59 (xs.length - 1) cc_60, .slice m nm cm] rfl rfl rfl (by kernel_rfl) f_67 rfl (K.one_cells (by rfl)) rfl rfl ?_)
   intro w_72 e_73 hs_74 b_75
   have c_76 := c_64.own e_73 (by omega)
   have z_77 := c_76.size
   have zz_78 := e_73.size
   have f_79 := f_68.chg e_73 (f_68.ne f_67 (by decide))
   have f_80 := f_69.chg e_73 (by unfold K.Is; omega)
   have f_81 := f_70.chg e_73 (f_70.ne f_67 (by decide))
   have f_82 := o_71.chg e_73 (fun k hk hy => o_71.ne_ty f_67 (by decide) k hk hy)
   refine K.z (K.t (K.s ?_))
   refine K.KW.drawn (fun w => K.Chg K.No w0 w ∧ (w.cell? ⟨r_2, 0, none⟩ = some (.slice q nq cq)) ∧ (w.cell? ⟨r_2, 1, none⟩ = some (.slice r_59 (xs.length - 1) cc_60)) ∧ (w.cell? ⟨r_2, 2, none⟩ = some (.slice m nm cm))) (by kernel_rfl) ?_
   intro w_83 e_84 hs_85
   have c_87 := c_76.no e_84
   have z_88 := c_87.size
   have zz_89 := e_84.size
   have f_90 := b_75.no e_84
   have f_91 := f_79.no e_84
   have f_92 := f_80.no e_84
   have f_93 := f_81.no e_84
   have f_94 := f_82.no e_84
   have hS_86 : (fun w => K.Chg K.No w0 w ∧ (w.cell? ⟨r_2, 0, none⟩ = some (.slice q nq cq)) ∧ (w.cell? ⟨r_2, 1, none⟩ = some (.slice r_59 (xs.length - 1) cc_60)) ∧ (w.cell? ⟨r_2, 2, none⟩ = some (.slice m nm cm))) w_83 := ⟨c_87, ((f_90).cell rfl), ((f_90).cell rfl), ((f_90).cell rfl)⟩
   refine K.m 0 rfl (fun w hS => K.QR.ldN [.slice q nq cq, .slice r_59 (xs.length - 1) cc_60, .slice m nm cm] rfl rfl (by kernel_rfl) (by kernel_rfl) (K.cells (K.cl (hS.2.1) (K.cl (hS.2.2.1) (K.cl (hS.2.2.2) K.cl0))))) hS_86 ?_
   refine K.DW.l 1 rfl (by kernel_rfl) rfl (K.OW.call rfl [K.iv 1, .int .u32 0] rfl rfl (by kernel_rfl) (result_ok 1 0 _) ?_)
   rintro _ w_96 ⟨rfl, c_95⟩
   have c_97 := c_87.no c_95
   have z_98 := c_97.size
   have zz_99 := c_95.size
   have f_100 := f_90.no c_95
   have f_101 := f_91.no c_95
   have f_102 := f_92.no c_95
   have f_103 := f_93.no c_95
   have f_104 := f_94.no c_95
   have hS_105 : (fun w => K.Chg K.No w0 w ∧ (w.cell? ⟨r_2, 0, none⟩ = some (.slice q nq cq)) ∧ (w.cell? ⟨r_2, 1, none⟩ = some (.slice r_59 (xs.length - 1) cc_60)) ∧ (w.cell? ⟨r_2, 2, none⟩ = some (.slice m nm cm))) w_96 := ⟨c_97, ((f_100).cell rfl), ((f_100).cell rfl), ((f_100).cell rfl)⟩
   refine ⟨.inl hS_105, ?_⟩
   refine K.DW.l 2 rfl (by kernel_rfl) rfl (K.OW.st [.slice q nq cq, .slice r_59 (xs.length - 1) cc_60, .slice m nm cm] [.slice q nq cq, .slice r_59 (xs.length - 1) cc_60, .slice m nm cm] rfl rfl rfl (by kernel_rfl) f_102 rfl (K.one_cells (by rfl)) rfl rfl ?_)
   intro w_106 e_107 hs_108 b_109
   have c_110 := c_97.own e_107 (by omega)
   have z_111 := c_110.size
   have zz_112 := e_107.size
   have f_113 := f_100.chg e_107 (by unfold K.Is; omega)
   have f_114 := f_101.chg e_107 (f_101.ne f_102 (by decide))
   have f_115 := f_103.chg e_107 (f_103.ne f_102 (by decide))
   have f_116 := f_104.chg e_107 (fun k hk hy => f_104.ne_ty f_102 (by decide) k hk hy)
   have hS_117 : (fun w => K.Chg K.No w0 w ∧ (w.cell? ⟨r_2, 0, none⟩ = some (.slice q nq cq)) ∧ (w.cell? ⟨r_2, 1, none⟩ = some (.slice r_59 (xs.length - 1) cc_60)) ∧ (w.cell? ⟨r_2, 2, none⟩ = some (.slice m nm cm))) w_106 := ⟨c_110, ((f_113).cell rfl), ((f_113).cell rfl), ((f_113).cell rfl)⟩
   refine ⟨.inl hS_117, ?_⟩
   refine K.DW.l 3 rfl (by kernel_rfl) rfl (K.OW.st [K.iv 1, .int .u32 0] [K.iv 1, .int .u32 0] rfl rfl rfl (by kernel_rfl) f_115 rfl (K.one_cells (by rfl)) rfl rfl ?_)
   intro w_118 e_119 hs_120 b_121
   have c_122 := c_110.own e_119 (by omega)
   have z_123 := c_122.size
   have zz_124 := e_119.size
   have f_125 := f_113.chg e_119 (f_113.ne f_115 (by decide))
   have f_126 := f_114.chg e_119 (f_114.ne f_115 (by decide))
   have f_127 := b_109.chg e_119 (b_109.ne f_115 (by decide))
   have f_128 := f_116.chg e_119 (fun k hk hy => f_116.ne_ty f_115 (by decide) k hk hy)
   refine ⟨.inr (by kernel_rfl), ?_⟩
   refine K.DW.done (by kernel_rfl) ?_
   refine K.t (K.r ?_)
   refine K.blk_ret ?_
   refine K.u ?_
   refine ⟨.inr rfl, rfl, (.tuple #[.agg #[.slice q nq cq, .slice r_59 (xs.length - 1) cc_60, .slice m nm cm], .agg #[K.iv 1, .int .u32 0]]), K.resAt (rs := [.cell 4 30, .cell 5 49]) [.agg #[.slice q nq cq, .slice r_59 (xs.length - 1) cc_60, .slice m nm cm], .agg #[K.iv 1, .int .u32 0]] rfl ⟨⟨_, rfl, K.lvN [.slice q nq cq, .slice r_59 (xs.length - 1) cc_60, .slice m nm cm] (by kernel_rfl) (by kernel_rfl) (K.cells (K.cl (f_127.cell rfl) (K.cl (f_127.cell rfl) (K.cl (f_127.cell rfl) K.cl0))))⟩, ⟨_, rfl, K.lvN [K.iv 1, .int .u32 0] (by kernel_rfl) (by kernel_rfl) (K.cells (K.cl (b_121.cell rfl) (K.cl (b_121.cell rfl) K.cl0)))⟩, trivial⟩, ?_⟩
   rw [setT_tt (by assumption) (by assumption : (kind : Int) = (4 : Int))] at hT
   simp only [Prod.mk.injEq] at hT
   obtain ⟨rfl, rfl⟩ := hT
   have hln := delT_len (xs := xs) (i := posT xs key) (by omega)
   rw [hln]
   exact .inl ⟨_, _, rfl, c_122, f_128⟩
  ·
   refine K.xe (kind : Int) (4 : Int) h_58 ?_
   refine K.q [.bool false, .bool false] (K.z (K.t (K.f (K.s ?_))))
   refine K.g (K.q [.bool true, .bool true] (K.z (K.t (K.h (K.s ?_)))))
   refine K.KW.drawn (fun w => K.Chg K.No w0 w ∧ (w.cell? ⟨r_2, 0, none⟩ = some (.slice q nq cq)) ∧ (w.cell? ⟨r_2, 1, none⟩ = some (.slice s xs.length cs)) ∧ (w.cell? ⟨r_2, 2, none⟩ = some (.slice m nm cm))) (by kernel_rfl) ?_
   intro w_130 e_131 hs_132
   have c_134 := c_49.no e_131
   have z_135 := c_134.size
   have zz_136 := e_131.size
   have f_137 := f_52.no e_131
   have f_138 := f_53.no e_131
   have f_139 := f_54.no e_131
   have f_140 := f_55.no e_131
   have hS_133 : (fun w => K.Chg K.No w0 w ∧ (w.cell? ⟨r_2, 0, none⟩ = some (.slice q nq cq)) ∧ (w.cell? ⟨r_2, 1, none⟩ = some (.slice s xs.length cs)) ∧ (w.cell? ⟨r_2, 2, none⟩ = some (.slice m nm cm))) w_130 := ⟨c_134, ((f_137).cell rfl), ((f_137).cell rfl), ((f_137).cell rfl)⟩
   refine K.m 0 rfl (fun w hS => K.QR.ldN [.slice q nq cq, .slice s xs.length cs, .slice m nm cm] rfl rfl (by kernel_rfl) (by kernel_rfl) (K.cells (K.cl (hS.2.1) (K.cl (hS.2.2.1) (K.cl (hS.2.2.2) K.cl0))))) hS_133 ?_
   refine K.DW.l 1 rfl (by kernel_rfl) rfl (K.OW.call rfl [K.iv 3, .int .u32 0] rfl rfl (by kernel_rfl) (result_ok 3 0 _) ?_)
   rintro _ w_142 ⟨rfl, c_141⟩
   have c_143 := c_134.no c_141
   have z_144 := c_143.size
   have zz_145 := c_141.size
   have f_146 := f_137.no c_141
   have f_147 := f_138.no c_141
   have f_148 := f_139.no c_141
   have f_149 := f_140.no c_141
   have hS_150 : (fun w => K.Chg K.No w0 w ∧ (w.cell? ⟨r_2, 0, none⟩ = some (.slice q nq cq)) ∧ (w.cell? ⟨r_2, 1, none⟩ = some (.slice s xs.length cs)) ∧ (w.cell? ⟨r_2, 2, none⟩ = some (.slice m nm cm))) w_142 := ⟨c_143, ((f_146).cell rfl), ((f_146).cell rfl), ((f_146).cell rfl)⟩
   refine ⟨.inl hS_150, ?_⟩
   refine K.DW.l 2 rfl (by kernel_rfl) rfl (K.OW.st [.slice q nq cq, .slice s xs.length cs, .slice m nm cm] [.slice q nq cq, .slice s xs.length cs, .slice m nm cm] rfl rfl rfl (by kernel_rfl) f_148 rfl (K.one_cells (by rfl)) rfl rfl ?_)
   intro w_151 e_152 hs_153 b_154
   have c_155 := c_143.own e_152 (by omega)
   have z_156 := c_155.size
   have zz_157 := e_152.size
   have f_158 := f_146.chg e_152 (by unfold K.Is; omega)
   have f_159 := f_147.chg e_152 (f_147.ne f_148 (by decide))
   have f_160 := f_149.chg e_152 (f_149.ne f_148 (by decide))
   have hS_161 : (fun w => K.Chg K.No w0 w ∧ (w.cell? ⟨r_2, 0, none⟩ = some (.slice q nq cq)) ∧ (w.cell? ⟨r_2, 1, none⟩ = some (.slice s xs.length cs)) ∧ (w.cell? ⟨r_2, 2, none⟩ = some (.slice m nm cm))) w_151 := ⟨c_155, ((f_158).cell rfl), ((f_158).cell rfl), ((f_158).cell rfl)⟩
   refine ⟨.inl hS_161, ?_⟩
   refine K.DW.l 3 rfl (by kernel_rfl) rfl (K.OW.st [K.iv 3, .int .u32 0] [K.iv 3, .int .u32 0] rfl rfl rfl (by kernel_rfl) f_160 rfl (K.one_cells (by rfl)) rfl rfl ?_)
   intro w_162 e_163 hs_164 b_165
   have c_166 := c_155.own e_163 (by omega)
   have z_167 := c_166.size
   have zz_168 := e_163.size
   have f_169 := f_158.chg e_163 (f_158.ne f_160 (by decide))
   have f_170 := f_159.chg e_163 (f_159.ne f_160 (by decide))
   have f_171 := b_154.chg e_163 (b_154.ne f_160 (by decide))
   refine ⟨.inr (by kernel_rfl), ?_⟩
   refine K.DW.done (by kernel_rfl) ?_
   refine K.t (K.r ?_)
   refine K.blk_ret ?_
   refine K.u ?_
   refine ⟨.inr rfl, rfl, (.tuple #[.agg #[.slice q nq cq, .slice s xs.length cs, .slice m nm cm], .agg #[K.iv 3, .int .u32 0]]), K.resAt (rs := [.cell 4 30, .cell 5 49]) [.agg #[.slice q nq cq, .slice s xs.length cs, .slice m nm cm], .agg #[K.iv 3, .int .u32 0]] rfl ⟨⟨_, rfl, K.lvN [.slice q nq cq, .slice s xs.length cs, .slice m nm cm] (by kernel_rfl) (by kernel_rfl) (K.cells (K.cl (f_171.cell rfl) (K.cl (f_171.cell rfl) (K.cl (f_171.cell rfl) K.cl0))))⟩, ⟨_, rfl, K.lvN [K.iv 3, .int .u32 0] (by kernel_rfl) (by kernel_rfl) (K.cells (K.cl (b_165.cell rfl) (K.cl (b_165.cell rfl) K.cl0)))⟩, trivial⟩, ?_⟩
   first | (rw [setT_tf (by assumption) (by assumption)] at hT; simp only [Prod.mk.injEq] at hT; obtain ⟨rfl, rfl⟩ := hT; exact .inr ⟨rfl, rfl, c_166⟩) | (rw [setT_ff (by assumption) (by assumption)] at hT; simp only [Prod.mk.injEq] at hT; obtain ⟨rfl, rfl⟩ := hT; exact .inr ⟨rfl, rfl, c_166⟩)
 ·
  have c_173 := c_37.no c_48
  have z_174 := c_173.size
  have zz_175 := c_48.size
  have f_176 := f_40.no c_48
  have f_177 := f_41.no c_48
  have f_178 := f_42.no c_48
  have f_179 := b_36.no c_48
  have hp_180 := posT_le xs key
  refine K.q [.tuple #[K.iv (((posT xs key) : Nat) : Int), .bool false], K.iv (((posT xs key) : Nat) : Int), .bool false, K.iv (((posT xs key) : Nat) : Int), .bool false] (K.z (K.t (K.s ?_)))
  refine K.KW.block ?_
  refine K.s ?_
  refine K.g (K.q [.bool false, .bool false] (K.n_ (K.n_ (K.n_ (K.q [.bool false, .bool false] (K.z (K.t (K.f (K.s ?_)))))))))
  refine K.g (K.q [.bool false, .bool false] (K.z (K.t (K.f (K.s ?_)))))
  refine K.g (K.q [K.pa r_11] ?_)
  refine K.d (K.iv kind) (f_177.cell rfl) ?_
  by_cases h_181 : (kind : Int) = (3 : Int)
  ·
   refine K.xn (kind : Int) (3 : Int) h_181 ?_
   refine K.q [.bool false] (K.z (K.t (K.f (K.k ?_))))
   refine K.blk_normal ?_
   refine K.t (K.s ?_)
   refine K.g (K.q [.pointer (some ⟨r_2, 1, none⟩)] ?_)
   refine K.d (.slice s xs.length cs) (f_176.cell rfl) ?_
   refine K.q [K.iv (((posT xs key) : Nat) : Int), .pointer (some ⟨r_11, 1, none⟩)] ?_
   refine K.d (.int .u32 key) (f_177.cell rfl) ?_
   refine K.l (K.OW.call rfl [.slice s xs.length cs, K.iv (((posT xs key) : Nat) : Int), .int .u32 key] rfl rfl (by kernel_rfl) (withU_ok _ _ (posT xs key) xs key _ (by omega) (by omega) (hx.no c_173)) ?_)
   rintro _ w_186 ⟨r_182, cc_183, rfl, c_184, o_185⟩
   have c_187 := c_173.no c_184
   have z_188 := c_187.size
   have zz_189 := c_184.size
   have f_190 := f_176.no c_184
   have f_191 := f_177.no c_184
   have f_192 := f_178.no c_184
   have f_193 := f_179.no c_184
   have o_194 := K.Own.mono (base' := w0.heap.size) o_185 (by omega)
   refine K.q [.pointer (some ⟨r_2, 1, none⟩)] ?_
   refine K.l (K.OW.st [.slice r_182 (xs.length + 1) cc_183] [.slice q nq cq, .slice r_182 (xs.length + 1) cc_183, .slice m nm cm] rfl rfl rfl (by kernel_rfl) f_190 rfl (K.one_cells (by rfl)) rfl rfl ?_)
   intro w_195 e_196 hs_197 b_198
   have c_199 := c_187.own e_196 (by omega)
   have z_200 := c_199.size
   have zz_201 := e_196.size
   have f_202 := f_191.chg e_196 (f_191.ne f_190 (by decide))
   have f_203 := f_192.chg e_196 (by unfold K.Is; omega)
   have f_204 := f_193.chg e_196 (f_193.ne f_190 (by decide))
   have f_205 := o_194.chg e_196 (fun k hk hy => o_194.ne_ty f_190 (by decide) k hk hy)
   refine K.z (K.t (K.s ?_))
   refine K.KW.drawn (fun w => K.Chg K.No w0 w ∧ (w.cell? ⟨r_2, 0, none⟩ = some (.slice q nq cq)) ∧ (w.cell? ⟨r_2, 1, none⟩ = some (.slice r_182 (xs.length + 1) cc_183)) ∧ (w.cell? ⟨r_2, 2, none⟩ = some (.slice m nm cm))) (by kernel_rfl) ?_
   intro w_206 e_207 hs_208
   have c_210 := c_199.no e_207
   have z_211 := c_210.size
   have zz_212 := e_207.size
   have f_213 := b_198.no e_207
   have f_214 := f_202.no e_207
   have f_215 := f_203.no e_207
   have f_216 := f_204.no e_207
   have f_217 := f_205.no e_207
   have hS_209 : (fun w => K.Chg K.No w0 w ∧ (w.cell? ⟨r_2, 0, none⟩ = some (.slice q nq cq)) ∧ (w.cell? ⟨r_2, 1, none⟩ = some (.slice r_182 (xs.length + 1) cc_183)) ∧ (w.cell? ⟨r_2, 2, none⟩ = some (.slice m nm cm))) w_206 := ⟨c_210, ((f_213).cell rfl), ((f_213).cell rfl), ((f_213).cell rfl)⟩
   refine K.m 0 rfl (fun w hS => K.QR.ldN [.slice q nq cq, .slice r_182 (xs.length + 1) cc_183, .slice m nm cm] rfl rfl (by kernel_rfl) (by kernel_rfl) (K.cells (K.cl (hS.2.1) (K.cl (hS.2.2.1) (K.cl (hS.2.2.2) K.cl0))))) hS_209 ?_
   refine K.DW.l 1 rfl (by kernel_rfl) rfl (K.OW.call rfl [K.iv 1, .int .u32 0] rfl rfl (by kernel_rfl) (result_ok 1 0 _) ?_)
   rintro _ w_219 ⟨rfl, c_218⟩
   have c_220 := c_210.no c_218
   have z_221 := c_220.size
   have zz_222 := c_218.size
   have f_223 := f_213.no c_218
   have f_224 := f_214.no c_218
   have f_225 := f_215.no c_218
   have f_226 := f_216.no c_218
   have f_227 := f_217.no c_218
   have hS_228 : (fun w => K.Chg K.No w0 w ∧ (w.cell? ⟨r_2, 0, none⟩ = some (.slice q nq cq)) ∧ (w.cell? ⟨r_2, 1, none⟩ = some (.slice r_182 (xs.length + 1) cc_183)) ∧ (w.cell? ⟨r_2, 2, none⟩ = some (.slice m nm cm))) w_219 := ⟨c_220, ((f_223).cell rfl), ((f_223).cell rfl), ((f_223).cell rfl)⟩
   refine ⟨.inl hS_228, ?_⟩
   refine K.DW.l 2 rfl (by kernel_rfl) rfl (K.OW.st [.slice q nq cq, .slice r_182 (xs.length + 1) cc_183, .slice m nm cm] [.slice q nq cq, .slice r_182 (xs.length + 1) cc_183, .slice m nm cm] rfl rfl rfl (by kernel_rfl) f_225 rfl (K.one_cells (by rfl)) rfl rfl ?_)
   intro w_229 e_230 hs_231 b_232
   have c_233 := c_220.own e_230 (by omega)
   have z_234 := c_233.size
   have zz_235 := e_230.size
   have f_236 := f_223.chg e_230 (by unfold K.Is; omega)
   have f_237 := f_224.chg e_230 (f_224.ne f_225 (by decide))
   have f_238 := f_226.chg e_230 (f_226.ne f_225 (by decide))
   have f_239 := f_227.chg e_230 (fun k hk hy => f_227.ne_ty f_225 (by decide) k hk hy)
   have hS_240 : (fun w => K.Chg K.No w0 w ∧ (w.cell? ⟨r_2, 0, none⟩ = some (.slice q nq cq)) ∧ (w.cell? ⟨r_2, 1, none⟩ = some (.slice r_182 (xs.length + 1) cc_183)) ∧ (w.cell? ⟨r_2, 2, none⟩ = some (.slice m nm cm))) w_229 := ⟨c_233, ((f_236).cell rfl), ((f_236).cell rfl), ((f_236).cell rfl)⟩
   refine ⟨.inl hS_240, ?_⟩
   refine K.DW.l 3 rfl (by kernel_rfl) rfl (K.OW.st [K.iv 1, .int .u32 0] [K.iv 1, .int .u32 0] rfl rfl rfl (by kernel_rfl) f_238 rfl (K.one_cells (by rfl)) rfl rfl ?_)
   intro w_241 e_242 hs_243 b_244
   have c_245 := c_233.own e_242 (by omega)
   have z_246 := c_245.size
   have zz_247 := e_242.size
   have f_248 := f_236.chg e_242 (f_236.ne f_238 (by decide))
   have f_249 := f_237.chg e_242 (f_237.ne f_238 (by decide))
   have f_250 := b_232.chg e_242 (b_232.ne f_238 (by decide))
   have f_251 := f_239.chg e_242 (fun k hk hy => f_239.ne_ty f_238 (by decide) k hk hy)
   refine ⟨.inr (by kernel_rfl), ?_⟩
   refine K.DW.done (by kernel_rfl) ?_
   refine K.t (K.r ?_)
   refine ⟨.inr rfl, rfl, (.tuple #[.agg #[.slice q nq cq, .slice r_182 (xs.length + 1) cc_183, .slice m nm cm], .agg #[K.iv 1, .int .u32 0]]), K.resAt (rs := [.cell 4 30, .cell 5 49]) [.agg #[.slice q nq cq, .slice r_182 (xs.length + 1) cc_183, .slice m nm cm], .agg #[K.iv 1, .int .u32 0]] rfl ⟨⟨_, rfl, K.lvN [.slice q nq cq, .slice r_182 (xs.length + 1) cc_183, .slice m nm cm] (by kernel_rfl) (by kernel_rfl) (K.cells (K.cl (f_250.cell rfl) (K.cl (f_250.cell rfl) (K.cl (f_250.cell rfl) K.cl0))))⟩, ⟨_, rfl, K.lvN [K.iv 1, .int .u32 0] (by kernel_rfl) (by kernel_rfl) (K.cells (K.cl (b_244.cell rfl) (K.cl (b_244.cell rfl) K.cl0)))⟩, trivial⟩, ?_⟩
   rw [setT_ft (by assumption) (by assumption : (kind : Int) = (3 : Int))] at hT
   simp only [Prod.mk.injEq] at hT
   obtain ⟨rfl, rfl⟩ := hT
   have hln := insT_len (xs := xs) (i := posT xs key) (x := key) (by omega)
   rw [hln]
   exact .inl ⟨_, _, rfl, c_245, f_251⟩
  ·
   refine K.yn (kind : Int) (3 : Int) h_181 ?_
   refine K.q [.bool true] (K.z (K.t (K.h (K.s ?_))))
   refine K.KW.drawn (fun w => K.Chg K.No w0 w ∧ (w.cell? ⟨r_2, 0, none⟩ = some (.slice q nq cq)) ∧ (w.cell? ⟨r_2, 1, none⟩ = some (.slice s xs.length cs)) ∧ (w.cell? ⟨r_2, 2, none⟩ = some (.slice m nm cm))) (by kernel_rfl) ?_
   intro w_253 e_254 hs_255
   have c_257 := c_173.no e_254
   have z_258 := c_257.size
   have zz_259 := e_254.size
   have f_260 := f_176.no e_254
   have f_261 := f_177.no e_254
   have f_262 := f_178.no e_254
   have f_263 := f_179.no e_254
   have hS_256 : (fun w => K.Chg K.No w0 w ∧ (w.cell? ⟨r_2, 0, none⟩ = some (.slice q nq cq)) ∧ (w.cell? ⟨r_2, 1, none⟩ = some (.slice s xs.length cs)) ∧ (w.cell? ⟨r_2, 2, none⟩ = some (.slice m nm cm))) w_253 := ⟨c_257, ((f_260).cell rfl), ((f_260).cell rfl), ((f_260).cell rfl)⟩
   refine K.m 0 rfl (fun w hS => K.QR.ldN [.slice q nq cq, .slice s xs.length cs, .slice m nm cm] rfl rfl (by kernel_rfl) (by kernel_rfl) (K.cells (K.cl (hS.2.1) (K.cl (hS.2.2.1) (K.cl (hS.2.2.2) K.cl0))))) hS_256 ?_
   refine K.DW.l 1 rfl (by kernel_rfl) rfl (K.OW.call rfl [K.iv 4, .int .u32 0] rfl rfl (by kernel_rfl) (result_ok 4 0 _) ?_)
   rintro _ w_265 ⟨rfl, c_264⟩
   have c_266 := c_257.no c_264
   have z_267 := c_266.size
   have zz_268 := c_264.size
   have f_269 := f_260.no c_264
   have f_270 := f_261.no c_264
   have f_271 := f_262.no c_264
   have f_272 := f_263.no c_264
   have hS_273 : (fun w => K.Chg K.No w0 w ∧ (w.cell? ⟨r_2, 0, none⟩ = some (.slice q nq cq)) ∧ (w.cell? ⟨r_2, 1, none⟩ = some (.slice s xs.length cs)) ∧ (w.cell? ⟨r_2, 2, none⟩ = some (.slice m nm cm))) w_265 := ⟨c_266, ((f_269).cell rfl), ((f_269).cell rfl), ((f_269).cell rfl)⟩
   refine ⟨.inl hS_273, ?_⟩
   refine K.DW.l 2 rfl (by kernel_rfl) rfl (K.OW.st [.slice q nq cq, .slice s xs.length cs, .slice m nm cm] [.slice q nq cq, .slice s xs.length cs, .slice m nm cm] rfl rfl rfl (by kernel_rfl) f_271 rfl (K.one_cells (by rfl)) rfl rfl ?_)
   intro w_274 e_275 hs_276 b_277
   have c_278 := c_266.own e_275 (by omega)
   have z_279 := c_278.size
   have zz_280 := e_275.size
   have f_281 := f_269.chg e_275 (by unfold K.Is; omega)
   have f_282 := f_270.chg e_275 (f_270.ne f_271 (by decide))
   have f_283 := f_272.chg e_275 (f_272.ne f_271 (by decide))
   have hS_284 : (fun w => K.Chg K.No w0 w ∧ (w.cell? ⟨r_2, 0, none⟩ = some (.slice q nq cq)) ∧ (w.cell? ⟨r_2, 1, none⟩ = some (.slice s xs.length cs)) ∧ (w.cell? ⟨r_2, 2, none⟩ = some (.slice m nm cm))) w_274 := ⟨c_278, ((f_281).cell rfl), ((f_281).cell rfl), ((f_281).cell rfl)⟩
   refine ⟨.inl hS_284, ?_⟩
   refine K.DW.l 3 rfl (by kernel_rfl) rfl (K.OW.st [K.iv 4, .int .u32 0] [K.iv 4, .int .u32 0] rfl rfl rfl (by kernel_rfl) f_283 rfl (K.one_cells (by rfl)) rfl rfl ?_)
   intro w_285 e_286 hs_287 b_288
   have c_289 := c_278.own e_286 (by omega)
   have z_290 := c_289.size
   have zz_291 := e_286.size
   have f_292 := f_281.chg e_286 (f_281.ne f_283 (by decide))
   have f_293 := f_282.chg e_286 (f_282.ne f_283 (by decide))
   have f_294 := b_277.chg e_286 (b_277.ne f_283 (by decide))
   refine ⟨.inr (by kernel_rfl), ?_⟩
   refine K.DW.done (by kernel_rfl) ?_
   refine K.t (K.r ?_)
   refine K.blk_ret ?_
   refine K.u ?_
   refine ⟨.inr rfl, rfl, (.tuple #[.agg #[.slice q nq cq, .slice s xs.length cs, .slice m nm cm], .agg #[K.iv 4, .int .u32 0]]), K.resAt (rs := [.cell 4 30, .cell 5 49]) [.agg #[.slice q nq cq, .slice s xs.length cs, .slice m nm cm], .agg #[K.iv 4, .int .u32 0]] rfl ⟨⟨_, rfl, K.lvN [.slice q nq cq, .slice s xs.length cs, .slice m nm cm] (by kernel_rfl) (by kernel_rfl) (K.cells (K.cl (f_294.cell rfl) (K.cl (f_294.cell rfl) (K.cl (f_294.cell rfl) K.cl0))))⟩, ⟨_, rfl, K.lvN [K.iv 4, .int .u32 0] (by kernel_rfl) (by kernel_rfl) (K.cells (K.cl (b_288.cell rfl) (K.cl (b_288.cell rfl) K.cl0)))⟩, trivial⟩, ?_⟩
   first | (rw [setT_tf (by assumption) (by assumption)] at hT; simp only [Prod.mk.injEq] at hT; obtain ⟨rfl, rfl⟩ := hT; exact .inr ⟨rfl, rfl, c_289⟩) | (rw [setT_ff (by assumption) (by assumption)] at hT; simp only [Prod.mk.injEq] at hT; obtain ⟨rfl, rfl⟩ := hT; exact .inr ⟨rfl, rfl, c_289⟩)
set_option maxHeartbeats 1000000 in
set_option maxRecDepth 100000 in
theorem queue_ok (q s m : Option Addr) (cq ns cs nm cm : Nat) (xs ys : List Int) (kind key val rk rv : Int) (w0 : World) (hm : xs.length ≤ 1000000) (hx : RU32 w0 q xs) (hT : queueT xs kind val = (ys, rk, rv)) :
  K.KC Try.prog 61 #[.agg #[.slice q xs.length cq, .slice s ns cs, .slice m nm cm], .agg #[K.iv kind, .int .u32 key, .int .u32 val]] w0 (fun v w' => (∃ a' c', v = .tuple #[.agg #[.slice a' ys.length c', .slice s ns cs, .slice m nm cm], .agg #[K.iv rk, .int .u32 rv]] ∧ K.Chg K.No w0 w' ∧ K.Own w' w0.heap.size 45 1 a' ys.length c' (ys.flatMap cU32)) ∨ (ys = xs ∧ v = .tuple #[.agg #[.slice q xs.length cq, .slice s ns cs, .slice m nm cm], .agg #[K.iv rk, .int .u32 rv]] ∧ K.Chg K.No w0 w')) := by
 refine K.KC.mk (n := 40) Try.func61 rfl rfl [.agg #[.slice q xs.length cq, .slice s ns cs, .slice m nm cm], .agg #[K.iv kind, .int .u32 key, .int .u32 val]] rfl rfl ?_
 refine K.s ?_
 refine K.g ?_
 refine K.l (K.OW.new (t := 30) rfl (fun r => K.pa r) [.slice q xs.length cq, .slice s ns cs, .slice m nm cm] (by kernel_rfl) ?_)
 intro w_1 r_2 hr_3 e_4 hs_5 b_6
 have c_7 := e_4
 have z_8 := c_7.size
 have zz_9 := e_4.size
 refine K.l (K.OW.new (t := 47) rfl (fun r => K.pa r) [K.iv kind, .int .u32 key, .int .u32 val] (by kernel_rfl) ?_)
 intro w_10 r_11 hr_12 e_13 hs_14 b_15
 have c_16 := c_7.no e_13
 have z_17 := c_16.size
 have zz_18 := e_13.size
 have f_19 := b_6.no e_13
 refine K.l (K.OW.new (t := 30) rfl (fun r => K.pa r) [.slice none 0 0, .slice none 0 0, .slice none 0 0] (by kernel_rfl) ?_)
 intro w_20 r_21 hr_22 e_23 hs_24 b_25
 have c_26 := c_16.no e_23
 have z_27 := c_26.size
 have zz_28 := e_23.size
 have f_29 := f_19.no e_23
 have f_30 := b_15.no e_23
 refine K.l (K.OW.new (t := 49) rfl (fun r => K.pa r) [K.iv 0, .int .u32 0] (by kernel_rfl) ?_)
 intro w_31 r_32 hr_33 e_34 hs_35 b_36
 have c_37 := c_26.no e_34
 have z_38 := c_37.size
 have zz_39 := e_34.size
 have f_40 := f_29.no e_34
 have f_41 := f_30.no e_34
 have f_42 := b_25.no e_34
 refine K.z (K.t (K.s ?_))
 refine K.KW.block ?_
 refine K.s ?_
 refine K.g (K.q [K.pa r_11] ?_)
 refine K.d (K.iv kind) (f_41.cell rfl) ?_
 by_cases h_43 : (kind : Int) = (1 : Int)
 ·
  refine K.ye (kind : Int) (1 : Int) h_43 ?_
  refine K.q [.bool true] (K.z (K.t (K.h (K.s ?_))))
  refine K.g (K.q [K.pa r_2] ?_)
  refine K.d (.slice q xs.length cq) (f_40.cell rfl) ?_
  refine K.q [K.pa r_2] ?_
  refine K.d (.slice q xs.length cq) (f_40.cell rfl) ?_
  refine K.a (K.QR.len (P := Try.prog) rfl rfl Try.underlying27) ?_
  refine K.q [.pointer (some ⟨r_11, 2, none⟩)] ?_
  refine K.d (.int .u32 val) (f_41.cell rfl) ?_
  refine K.l (K.OW.call rfl [.slice q xs.length cq, K.iv ((xs.length : Nat) : Int), .int .u32 val] rfl rfl (by kernel_rfl) (withU_ok _ _ xs.length xs val _ (by omega) (by omega) (hx.no c_37)) ?_)
  rintro _ w_48 ⟨r_44, cc_45, rfl, c_46, o_47⟩
  have c_49 := c_37.no c_46
  have z_50 := c_49.size
  have zz_51 := c_46.size
  have f_52 := f_40.no c_46
  have f_53 := f_41.no c_46
  have f_54 := f_42.no c_46
  have f_55 := b_36.no c_46
  have o_56 := K.Own.mono (base' := w0.heap.size) o_47 (by omega)
  refine K.q [K.pa r_2] ?_
  refine K.l (K.OW.st [.slice r_44 (xs.length + 1) cc_45] [.slice r_44 (xs.length + 1) cc_45, .slice s ns cs, .slice m nm cm] rfl rfl rfl (by kernel_rfl) f_52 rfl (K.one_cells (by rfl)) rfl rfl ?_)
  intro w_57 e_58 hs_59 b_60
  have c_61 := c_49.own e_58 (by omega)
  have z_62 := c_61.size
  have zz_63 := e_58.size
  have f_64 := f_53.chg e_58 (f_53.ne f_52 (by decide))
  have f_65 := f_54.chg e_58 (by unfold K.Is; omega)
  have f_66 := f_55.chg e_58 (f_55.ne f_52 (by decide))
  have f_67 := o_56.chg e_58 (fun k hk hy => o_56.ne_ty f_52 (by decide) k hk hy)
  refine K.z (K.t (K.s ?_))
  refine K.KW.drawn (fun w => K.Chg K.No w0 w ∧ (w.cell? ⟨r_2, 0, none⟩ = some (.slice r_44 (xs.length + 1) cc_45)) ∧ (w.cell? ⟨r_2, 1, none⟩ = some (.slice s ns cs)) ∧ (w.cell? ⟨r_2, 2, none⟩ = some (.slice m nm cm))) (by kernel_rfl) ?_
  intro w_68 e_69 hs_70
  have c_72 := c_61.no e_69
  have z_73 := c_72.size
  have zz_74 := e_69.size
  have f_75 := b_60.no e_69
  have f_76 := f_64.no e_69
  have f_77 := f_65.no e_69
  have f_78 := f_66.no e_69
  have f_79 := f_67.no e_69
  have hS_71 : (fun w => K.Chg K.No w0 w ∧ (w.cell? ⟨r_2, 0, none⟩ = some (.slice r_44 (xs.length + 1) cc_45)) ∧ (w.cell? ⟨r_2, 1, none⟩ = some (.slice s ns cs)) ∧ (w.cell? ⟨r_2, 2, none⟩ = some (.slice m nm cm))) w_68 := ⟨c_72, ((f_75).cell rfl), ((f_75).cell rfl), ((f_75).cell rfl)⟩
  refine K.m 0 rfl (fun w hS => K.QR.ldN [.slice r_44 (xs.length + 1) cc_45, .slice s ns cs, .slice m nm cm] rfl rfl (by kernel_rfl) (by kernel_rfl) (K.cells (K.cl (hS.2.1) (K.cl (hS.2.2.1) (K.cl (hS.2.2.2) K.cl0))))) hS_71 ?_
  refine K.DW.l 1 rfl (by kernel_rfl) rfl (K.OW.call rfl [K.iv 1, .int .u32 0] rfl rfl (by kernel_rfl) (result_ok 1 0 _) ?_)
  rintro _ w_81 ⟨rfl, c_80⟩
  have c_82 := c_72.no c_80
  have z_83 := c_82.size
  have zz_84 := c_80.size
  have f_85 := f_75.no c_80
  have f_86 := f_76.no c_80
  have f_87 := f_77.no c_80
  have f_88 := f_78.no c_80
  have f_89 := f_79.no c_80
  have hS_90 : (fun w => K.Chg K.No w0 w ∧ (w.cell? ⟨r_2, 0, none⟩ = some (.slice r_44 (xs.length + 1) cc_45)) ∧ (w.cell? ⟨r_2, 1, none⟩ = some (.slice s ns cs)) ∧ (w.cell? ⟨r_2, 2, none⟩ = some (.slice m nm cm))) w_81 := ⟨c_82, ((f_85).cell rfl), ((f_85).cell rfl), ((f_85).cell rfl)⟩
  refine ⟨.inl hS_90, ?_⟩
  refine K.DW.l 2 rfl (by kernel_rfl) rfl (K.OW.st [.slice r_44 (xs.length + 1) cc_45, .slice s ns cs, .slice m nm cm] [.slice r_44 (xs.length + 1) cc_45, .slice s ns cs, .slice m nm cm] rfl rfl rfl (by kernel_rfl) f_87 rfl (K.one_cells (by rfl)) rfl rfl ?_)
  intro w_91 e_92 hs_93 b_94
  have c_95 := c_82.own e_92 (by omega)
  have z_96 := c_95.size
  have zz_97 := e_92.size
  have f_98 := f_85.chg e_92 (by unfold K.Is; omega)
  have f_99 := f_86.chg e_92 (f_86.ne f_87 (by decide))
  have f_100 := f_88.chg e_92 (f_88.ne f_87 (by decide))
  have f_101 := f_89.chg e_92 (fun k hk hy => f_89.ne_ty f_87 (by decide) k hk hy)
  have hS_102 : (fun w => K.Chg K.No w0 w ∧ (w.cell? ⟨r_2, 0, none⟩ = some (.slice r_44 (xs.length + 1) cc_45)) ∧ (w.cell? ⟨r_2, 1, none⟩ = some (.slice s ns cs)) ∧ (w.cell? ⟨r_2, 2, none⟩ = some (.slice m nm cm))) w_91 := ⟨c_95, ((f_98).cell rfl), ((f_98).cell rfl), ((f_98).cell rfl)⟩
  refine ⟨.inl hS_102, ?_⟩
  refine K.DW.l 3 rfl (by kernel_rfl) rfl (K.OW.st [K.iv 1, .int .u32 0] [K.iv 1, .int .u32 0] rfl rfl rfl (by kernel_rfl) f_100 rfl (K.one_cells (by rfl)) rfl rfl ?_)
  intro w_103 e_104 hs_105 b_106
  have c_107 := c_95.own e_104 (by omega)
  have z_108 := c_107.size
  have zz_109 := e_104.size
  have f_110 := f_98.chg e_104 (f_98.ne f_100 (by decide))
  have f_111 := f_99.chg e_104 (f_99.ne f_100 (by decide))
  have f_112 := b_94.chg e_104 (b_94.ne f_100 (by decide))
  have f_113 := f_101.chg e_104 (fun k hk hy => f_101.ne_ty f_100 (by decide) k hk hy)
  refine ⟨.inr (by kernel_rfl), ?_⟩
  refine K.DW.done (by kernel_rfl) ?_
  refine K.t (K.r ?_)
  refine K.blk_ret ?_
  refine K.u ?_
  refine ⟨.inr rfl, rfl, (.tuple #[.agg #[.slice r_44 (xs.length + 1) cc_45, .slice s ns cs, .slice m nm cm], .agg #[K.iv 1, .int .u32 0]]), K.resAt (rs := [.cell 4 30, .cell 5 49]) [.agg #[.slice r_44 (xs.length + 1) cc_45, .slice s ns cs, .slice m nm cm], .agg #[K.iv 1, .int .u32 0]] rfl ⟨⟨_, rfl, K.lvN [.slice r_44 (xs.length + 1) cc_45, .slice s ns cs, .slice m nm cm] (by kernel_rfl) (by kernel_rfl) (K.cells (K.cl (f_112.cell rfl) (K.cl (f_112.cell rfl) (K.cl (f_112.cell rfl) K.cl0))))⟩, ⟨_, rfl, K.lvN [K.iv 1, .int .u32 0] (by kernel_rfl) (by kernel_rfl) (K.cells (K.cl (b_106.cell rfl) (K.cl (b_106.cell rfl) K.cl0)))⟩, trivial⟩, ?_⟩
  unfold queueT at hT
  rw [if_pos (by assumption)] at hT
  simp only [Prod.mk.injEq] at hT
  obtain ⟨rfl, rfl, rfl⟩ := hT
  have hln := insT_len (xs := xs) (i := xs.length) (x := val) (by omega)
  rw [hln]
  exact .inl ⟨_, _, rfl, c_107, f_113⟩
 ·
  refine K.xe (kind : Int) (1 : Int) h_43 ?_
  refine K.q [.bool false] (K.z (K.t (K.f (K.s ?_))))
  refine K.g (K.q [K.pa r_2] ?_)
  refine K.d (.slice q xs.length cq) (f_40.cell rfl) ?_
  refine K.a (K.QR.len (P := Try.prog) rfl rfl Try.underlying27) ?_
  by_cases h_115 : (((xs.length : Nat) : Int) : Int) = (0 : Int)
  ·
   refine K.ye (((xs.length : Nat) : Int) : Int) (0 : Int) h_115 ?_
   refine K.q [.bool true] (K.z (K.t (K.h (K.s ?_))))
   refine K.KW.drawn (fun w => K.Chg K.No w0 w ∧ (w.cell? ⟨r_2, 0, none⟩ = some (.slice q xs.length cq)) ∧ (w.cell? ⟨r_2, 1, none⟩ = some (.slice s ns cs)) ∧ (w.cell? ⟨r_2, 2, none⟩ = some (.slice m nm cm))) (by kernel_rfl) ?_
   intro w_116 e_117 hs_118
   have c_120 := c_37.no e_117
   have z_121 := c_120.size
   have zz_122 := e_117.size
   have f_123 := f_40.no e_117
   have f_124 := f_41.no e_117
   have f_125 := f_42.no e_117
   have f_126 := b_36.no e_117
   have hS_119 : (fun w => K.Chg K.No w0 w ∧ (w.cell? ⟨r_2, 0, none⟩ = some (.slice q xs.length cq)) ∧ (w.cell? ⟨r_2, 1, none⟩ = some (.slice s ns cs)) ∧ (w.cell? ⟨r_2, 2, none⟩ = some (.slice m nm cm))) w_116 := ⟨c_120, ((f_123).cell rfl), ((f_123).cell rfl), ((f_123).cell rfl)⟩
   refine K.m 0 rfl (fun w hS => K.QR.ldN [.slice q xs.length cq, .slice s ns cs, .slice m nm cm] rfl rfl (by kernel_rfl) (by kernel_rfl) (K.cells (K.cl (hS.2.1) (K.cl (hS.2.2.1) (K.cl (hS.2.2.2) K.cl0))))) hS_119 ?_
   refine K.DW.l 1 rfl (by kernel_rfl) rfl (K.OW.call rfl [K.iv 2, .int .u32 0] rfl rfl (by kernel_rfl) (result_ok 2 0 _) ?_)
   rintro _ w_128 ⟨rfl, c_127⟩
   have c_129 := c_120.no c_127
   have z_130 := c_129.size
   have zz_131 := c_127.size
   have f_132 := f_123.no c_127
   have f_133 := f_124.no c_127
   have f_134 := f_125.no c_127
   have f_135 := f_126.no c_127
   have hS_136 : (fun w => K.Chg K.No w0 w ∧ (w.cell? ⟨r_2, 0, none⟩ = some (.slice q xs.length cq)) ∧ (w.cell? ⟨r_2, 1, none⟩ = some (.slice s ns cs)) ∧ (w.cell? ⟨r_2, 2, none⟩ = some (.slice m nm cm))) w_128 := ⟨c_129, ((f_132).cell rfl), ((f_132).cell rfl), ((f_132).cell rfl)⟩
   refine ⟨.inl hS_136, ?_⟩
   refine K.DW.l 2 rfl (by kernel_rfl) rfl (K.OW.st [.slice q xs.length cq, .slice s ns cs, .slice m nm cm] [.slice q xs.length cq, .slice s ns cs, .slice m nm cm] rfl rfl rfl (by kernel_rfl) f_134 rfl (K.one_cells (by rfl)) rfl rfl ?_)
   intro w_137 e_138 hs_139 b_140
   have c_141 := c_129.own e_138 (by omega)
   have z_142 := c_141.size
   have zz_143 := e_138.size
   have f_144 := f_132.chg e_138 (by unfold K.Is; omega)
   have f_145 := f_133.chg e_138 (f_133.ne f_134 (by decide))
   have f_146 := f_135.chg e_138 (f_135.ne f_134 (by decide))
   have hS_147 : (fun w => K.Chg K.No w0 w ∧ (w.cell? ⟨r_2, 0, none⟩ = some (.slice q xs.length cq)) ∧ (w.cell? ⟨r_2, 1, none⟩ = some (.slice s ns cs)) ∧ (w.cell? ⟨r_2, 2, none⟩ = some (.slice m nm cm))) w_137 := ⟨c_141, ((f_144).cell rfl), ((f_144).cell rfl), ((f_144).cell rfl)⟩
   refine ⟨.inl hS_147, ?_⟩
   refine K.DW.l 3 rfl (by kernel_rfl) rfl (K.OW.st [K.iv 2, .int .u32 0] [K.iv 2, .int .u32 0] rfl rfl rfl (by kernel_rfl) f_146 rfl (K.one_cells (by rfl)) rfl rfl ?_)
   intro w_148 e_149 hs_150 b_151
   have c_152 := c_141.own e_149 (by omega)
   have z_153 := c_152.size
   have zz_154 := e_149.size
   have f_155 := f_144.chg e_149 (f_144.ne f_146 (by decide))
   have f_156 := f_145.chg e_149 (f_145.ne f_146 (by decide))
   have f_157 := b_140.chg e_149 (b_140.ne f_146 (by decide))
   refine ⟨.inr (by kernel_rfl), ?_⟩
   refine K.DW.done (by kernel_rfl) ?_
   refine K.t (K.r ?_)
   refine K.blk_ret ?_
   refine K.u ?_
   refine ⟨.inr rfl, rfl, (.tuple #[.agg #[.slice q xs.length cq, .slice s ns cs, .slice m nm cm], .agg #[K.iv 2, .int .u32 0]]), K.resAt (rs := [.cell 4 30, .cell 5 49]) [.agg #[.slice q xs.length cq, .slice s ns cs, .slice m nm cm], .agg #[K.iv 2, .int .u32 0]] rfl ⟨⟨_, rfl, K.lvN [.slice q xs.length cq, .slice s ns cs, .slice m nm cm] (by kernel_rfl) (by kernel_rfl) (K.cells (K.cl (f_157.cell rfl) (K.cl (f_157.cell rfl) (K.cl (f_157.cell rfl) K.cl0))))⟩, ⟨_, rfl, K.lvN [K.iv 2, .int .u32 0] (by kernel_rfl) (by kernel_rfl) (K.cells (K.cl (b_151.cell rfl) (K.cl (b_151.cell rfl) K.cl0)))⟩, trivial⟩, ?_⟩
   unfold queueT at hT
   rw [if_neg (by assumption), if_pos (by omega)] at hT
   simp only [Prod.mk.injEq] at hT
   obtain ⟨rfl, rfl, rfl⟩ := hT
   exact .inr ⟨rfl, rfl, c_152⟩
  ·
   refine K.xe (((xs.length : Nat) : Int) : Int) (0 : Int) h_115 ?_
   refine K.q [.bool false] (K.z (K.t (K.f (K.k ?_))))
   refine K.blk_normal ?_
   refine K.t (K.s ?_)
   obtain ⟨b_159, of_160, rfl, _⟩ := hx.at_ (by omega)
   refine K.g (K.q [K.pa r_2] ?_)
   refine K.d (.slice (some ⟨b_159, of_160, none⟩) xs.length cq) (f_40.cell rfl) ?_
   refine K.a (K.QR.ix (of_160 + 0 * 1) 1 rfl rfl rfl Try.underlying27 (by kernel_rfl) (by omega) (by first | (simp; done) | omega | (simp; omega))) ?_
   refine K.d (.int .u32 (xs.getD 0 0)) (c_37.cell (hx.ld 0 (by omega) 0 _ rfl) id) ?_
   refine K.q [.int .u32 (xs.getD 0 0)] (K.z (K.t (K.s ?_)))
   refine K.g (K.q [K.pa r_2] ?_)
   refine K.d (.slice (some ⟨b_159, of_160, none⟩) xs.length cq) (f_40.cell rfl) ?_
   refine K.l (K.OW.call rfl [.slice (some ⟨b_159, of_160, none⟩) xs.length cq, K.iv 0] rfl rfl (by kernel_rfl) (woutU_ok _ _ 0 xs _ (by omega) (by omega) (hx.no c_37)) ?_)
   rintro _ w_165 ⟨r_161, cc_162, rfl, c_163, o_164⟩
   have c_166 := c_37.no c_163
   have z_167 := c_166.size
   have zz_168 := c_163.size
   have f_169 := f_40.no c_163
   have f_170 := f_41.no c_163
   have f_171 := f_42.no c_163
   have f_172 := b_36.no c_163
   have o_173 := K.Own.mono (base' := w0.heap.size) o_164 (by omega)
   refine K.q [K.pa r_2] ?_
   refine K.l (K.OW.st [.slice r_161 (xs.length - 1) cc_162] [.slice r_161 (xs.length - 1) cc_162, .slice s ns cs, .slice m nm cm] rfl rfl rfl (by kernel_rfl) f_169 rfl (K.one_cells (by rfl)) rfl rfl ?_)
   intro w_174 e_175 hs_176 b_177
   have c_178 := c_166.own e_175 (by omega)
   have z_179 := c_178.size
   have zz_180 := e_175.size
   have f_181 := f_170.chg e_175 (f_170.ne f_169 (by decide))
   have f_182 := f_171.chg e_175 (by unfold K.Is; omega)
   have f_183 := f_172.chg e_175 (f_172.ne f_169 (by decide))
   have f_184 := o_173.chg e_175 (fun k hk hy => o_173.ne_ty f_169 (by decide) k hk hy)
   refine K.z (K.t (K.s ?_))
   refine K.KW.drawn (fun w => K.Chg K.No w0 w ∧ (w.cell? ⟨r_2, 0, none⟩ = some (.slice r_161 (xs.length - 1) cc_162)) ∧ (w.cell? ⟨r_2, 1, none⟩ = some (.slice s ns cs)) ∧ (w.cell? ⟨r_2, 2, none⟩ = some (.slice m nm cm))) (by kernel_rfl) ?_
   intro w_185 e_186 hs_187
   have c_189 := c_178.no e_186
   have z_190 := c_189.size
   have zz_191 := e_186.size
   have f_192 := b_177.no e_186
   have f_193 := f_181.no e_186
   have f_194 := f_182.no e_186
   have f_195 := f_183.no e_186
   have f_196 := f_184.no e_186
   have hS_188 : (fun w => K.Chg K.No w0 w ∧ (w.cell? ⟨r_2, 0, none⟩ = some (.slice r_161 (xs.length - 1) cc_162)) ∧ (w.cell? ⟨r_2, 1, none⟩ = some (.slice s ns cs)) ∧ (w.cell? ⟨r_2, 2, none⟩ = some (.slice m nm cm))) w_185 := ⟨c_189, ((f_192).cell rfl), ((f_192).cell rfl), ((f_192).cell rfl)⟩
   refine K.m 0 rfl (fun w hS => K.QR.ldN [.slice r_161 (xs.length - 1) cc_162, .slice s ns cs, .slice m nm cm] rfl rfl (by kernel_rfl) (by kernel_rfl) (K.cells (K.cl (hS.2.1) (K.cl (hS.2.2.1) (K.cl (hS.2.2.2) K.cl0))))) hS_188 ?_
   refine K.b 1 rfl (.int .u32 (xs.getD 0 0)) hS_188 ?_
   refine K.DW.l 2 rfl (by kernel_rfl) rfl (K.OW.call rfl [K.iv 1, .int .u32 (xs.getD 0 0)] rfl rfl (by kernel_rfl) (result_ok 1 (xs.getD 0 0) _) ?_)
   rintro _ w_198 ⟨rfl, c_197⟩
   have c_199 := c_189.no c_197
   have z_200 := c_199.size
   have zz_201 := c_197.size
   have f_202 := f_192.no c_197
   have f_203 := f_193.no c_197
   have f_204 := f_194.no c_197
   have f_205 := f_195.no c_197
   have f_206 := f_196.no c_197
   have hS_207 : (fun w => K.Chg K.No w0 w ∧ (w.cell? ⟨r_2, 0, none⟩ = some (.slice r_161 (xs.length - 1) cc_162)) ∧ (w.cell? ⟨r_2, 1, none⟩ = some (.slice s ns cs)) ∧ (w.cell? ⟨r_2, 2, none⟩ = some (.slice m nm cm))) w_198 := ⟨c_199, ((f_202).cell rfl), ((f_202).cell rfl), ((f_202).cell rfl)⟩
   refine ⟨.inl hS_207, ?_⟩
   refine K.DW.l 3 rfl (by kernel_rfl) rfl (K.OW.st [.slice r_161 (xs.length - 1) cc_162, .slice s ns cs, .slice m nm cm] [.slice r_161 (xs.length - 1) cc_162, .slice s ns cs, .slice m nm cm] rfl rfl rfl (by kernel_rfl) f_204 rfl (K.one_cells (by rfl)) rfl rfl ?_)
   intro w_208 e_209 hs_210 b_211
   have c_212 := c_199.own e_209 (by omega)
   have z_213 := c_212.size
   have zz_214 := e_209.size
   have f_215 := f_202.chg e_209 (by unfold K.Is; omega)
   have f_216 := f_203.chg e_209 (f_203.ne f_204 (by decide))
   have f_217 := f_205.chg e_209 (f_205.ne f_204 (by decide))
   have f_218 := f_206.chg e_209 (fun k hk hy => f_206.ne_ty f_204 (by decide) k hk hy)
   have hS_219 : (fun w => K.Chg K.No w0 w ∧ (w.cell? ⟨r_2, 0, none⟩ = some (.slice r_161 (xs.length - 1) cc_162)) ∧ (w.cell? ⟨r_2, 1, none⟩ = some (.slice s ns cs)) ∧ (w.cell? ⟨r_2, 2, none⟩ = some (.slice m nm cm))) w_208 := ⟨c_212, ((f_215).cell rfl), ((f_215).cell rfl), ((f_215).cell rfl)⟩
   refine ⟨.inl hS_219, ?_⟩
   refine K.DW.l 4 rfl (by kernel_rfl) rfl (K.OW.st [K.iv 1, .int .u32 (xs.getD 0 0)] [K.iv 1, .int .u32 (xs.getD 0 0)] rfl rfl rfl (by kernel_rfl) f_217 rfl (K.one_cells (by rfl)) rfl rfl ?_)
   intro w_220 e_221 hs_222 b_223
   have c_224 := c_212.own e_221 (by omega)
   have z_225 := c_224.size
   have zz_226 := e_221.size
   have f_227 := f_215.chg e_221 (f_215.ne f_217 (by decide))
   have f_228 := f_216.chg e_221 (f_216.ne f_217 (by decide))
   have f_229 := b_211.chg e_221 (b_211.ne f_217 (by decide))
   have f_230 := f_218.chg e_221 (fun k hk hy => f_218.ne_ty f_217 (by decide) k hk hy)
   refine ⟨.inr (by kernel_rfl), ?_⟩
   refine K.DW.done (by kernel_rfl) ?_
   refine K.t (K.r ?_)
   refine ⟨.inr rfl, rfl, (.tuple #[.agg #[.slice r_161 (xs.length - 1) cc_162, .slice s ns cs, .slice m nm cm], .agg #[K.iv 1, .int .u32 (xs.getD 0 0)]]), K.resAt (rs := [.cell 4 30, .cell 5 49]) [.agg #[.slice r_161 (xs.length - 1) cc_162, .slice s ns cs, .slice m nm cm], .agg #[K.iv 1, .int .u32 (xs.getD 0 0)]] rfl ⟨⟨_, rfl, K.lvN [.slice r_161 (xs.length - 1) cc_162, .slice s ns cs, .slice m nm cm] (by kernel_rfl) (by kernel_rfl) (K.cells (K.cl (f_229.cell rfl) (K.cl (f_229.cell rfl) (K.cl (f_229.cell rfl) K.cl0))))⟩, ⟨_, rfl, K.lvN [K.iv 1, .int .u32 (xs.getD 0 0)] (by kernel_rfl) (by kernel_rfl) (K.cells (K.cl (b_223.cell rfl) (K.cl (b_223.cell rfl) K.cl0)))⟩, trivial⟩, ?_⟩
   unfold queueT at hT
   rw [if_neg (by assumption), if_neg (by omega)] at hT
   simp only [Prod.mk.injEq] at hT
   obtain ⟨rfl, rfl, rfl⟩ := hT
   have hln := delT_len (xs := xs) (i := 0) (by omega)
   rw [hln]
   exact .inl ⟨_, _, rfl, c_224, f_230⟩
theorem risingB_t {ks : List Int} (h : ∀ j, j + 1 < ks.length → ks.getD j 0 < ks.getD (j + 1) 0) : true = risingB ks := by
 unfold risingB
 refine (List.all_eq_true.2 fun i hi => decide_eq_true (h i ?_)).symm
 have := List.mem_range.1 hi; omega
theorem risingB_f {ks : List Int} {j : Nat} (hj : j + 1 < ks.length) (h : ¬ ks.getD j 0 < ks.getD (j + 1) 0) : false = risingB ks := by
 cases hb : risingB ks with
 | false => rfl
 | true => exact absurd (rising_lit hb j hj) h
theorem risingB_tP {xs : List PairM} (h : ∀ j, j + 1 < xs.length → (xs.getD j p0).key < (xs.getD (j + 1) p0).key) : true = risingB (keysP xs) := risingB_t fun j hj => by rw [keysP_get, keysP_get]; exact h j (by rw [keysP_len] at hj; exact hj)
theorem risingB_fP {xs : List PairM} {j : Nat} (hj : j + 1 < xs.length) (h : ¬ (xs.getD j p0).key < (xs.getD (j + 1) p0).key) : false = risingB (keysP xs) := risingB_f (by rw [keysP_len]; exact hj) (by rw [keysP_get, keysP_get]; exact h)
set_option maxHeartbeats 1000000 in
set_option maxRecDepth 100000 in
theorem risesU_ok (a : Option Addr) (cap : Nat) (xs : List Int) (w0 : World) (hm : xs.length ≤ 1000000) (hx : RU32 w0 a xs) :
  K.KC Try.prog 54 #[.slice a xs.length cap, .func (.func 55) [].toArray [].toArray] w0 (fun v w' => v = .bool (risingB xs) ∧ K.Chg K.No w0 w') := by
 refine K.KC.mk (n := 26) Try.func54 rfl rfl [.slice a xs.length cap, .func (.func 55) [].toArray [].toArray] rfl rfl ?_
 refine K.s ?_
 refine K.g (K.q [.bool false] (K.z (K.t (K.s (K.s ?_)))))
 refine K.g (K.q [K.iv 1] (K.z (K.t ?_)))
 refine K.KW.block ?_
 refine K.KW.loop (fun m_ F_ w_1 => ∃ (k : Nat), m_ = xs.length - k ∧ K.Sl F_ [(0, .slice a xs.length cap), (1, .func (.func 55) [].toArray [].toArray), (5, K.iv ((k + 1 : Nat) : Int)), (26, undef)] ∧ ((∀ j, j < k → j + 1 < xs.length → xs.getD j 0 < xs.getD (j + 1) 0)) ∧ K.Chg K.No w0 w_1) ((fun (k : Nat) => xs.length - k) 0) ?_ ?_
 ·
  exact ⟨0, rfl, ⟨by rfl, by rfl, by rfl, by rfl, trivial⟩, (fun j h => by omega), (K.Chg.refl _)⟩
 ·
  intro m_2 F_3 w_1 hI
  obtain ⟨k, rfl, sl_4, p_6, c_5⟩ := hI
  rw [← K.Sl.puts sl_4]; clear sl_4
  have z_7 := c_5.size
  refine K.s (K.s ?_)
  refine K.g (K.q [K.iv ((k + 1 : Nat) : Int), .slice a xs.length cap] ?_)
  refine K.a (K.QR.len (P := Try.prog) rfl rfl Try.underlying27) ?_
  by_cases h_8 : (((k + 1 : Nat) : Int) : Int) < (((xs.length : Nat) : Int) : Int)
  ·
   refine K.y ((((k + 1 : Nat) : Int) : Int) < (((xs.length : Nat) : Int) : Int)) h_8 ?_
   refine K.z (K.t (K.h (K.k (K.t (K.s ?_)))))
   refine K.KW.block ?_
   refine K.s ?_
   obtain ⟨b_9, of_10, rfl, _⟩ := hx.at_ (by omega)
   refine K.KW.drawn (fun w => K.Chg K.No w0 w) (by kernel_rfl) ?_
   intro w_11 e_12 hs_13
   have c_15 := c_5.no e_12
   have z_16 := c_15.size
   have zz_17 := e_12.size
   have hS_14 : (fun w => K.Chg K.No w0 w) w_11 := c_15
   refine K.p 0 rfl (.func (.func 55) [].toArray [].toArray) hS_14 ?_
   refine K.p 1 rfl (.slice (some ⟨b_9, of_10, none⟩) xs.length cap) hS_14 ?_
   refine K.p 2 rfl (K.iv ((k + 1 : Nat) : Int)) hS_14 ?_
   refine K.m 3 rfl (fun w hS => K.QR.turn (v := K.iv ((k + 1 - 1 : Nat) : Int)) (K.QR.n64 ((((k + 1 : Nat) : Int) : Int) - (1 : Int)) ((k + 1 - 1 : Nat) : Int) (by kernel_rfl) (by omega)) (congrArg (Value.int .i64) (show (((k + 1 - 1 : Nat) : Int) : Int) = (((k : Nat) : Int) : Int) from by omega))) hS_14 ?_
   refine K.m 4 rfl (fun w hS => K.QR.ix (of_10 + k * 1) 1 rfl rfl rfl Try.underlying27 (by kernel_rfl) (by omega) (by first | (simp; done) | omega | (simp; omega))) hS_14 ?_
   refine K.o_ 5 rfl (.int .u32 (xs.getD k 0)) (fun w hS => (hS.cell (hx.ld k (by omega) 0 _ rfl) id)) hS_14 ?_
   refine K.p 7 rfl (.func (.func 55) [].toArray [].toArray) hS_14 ?_
   refine K.p 8 rfl (.slice (some ⟨b_9, of_10, none⟩) xs.length cap) hS_14 ?_
   refine K.p 9 rfl (K.iv ((k + 1 : Nat) : Int)) hS_14 ?_
   refine K.m 10 rfl (fun w hS => K.QR.ix (of_10 + (k + 1) * 1) 1 rfl rfl rfl Try.underlying27 (by kernel_rfl) (by omega) (by first | (simp; done) | omega | (simp; omega))) hS_14 ?_
   refine K.o_ 11 rfl (.int .u32 (xs.getD (k + 1) 0)) (fun w hS => (hS.cell (hx.ld (k + 1) (by omega) 0 _ rfl) id)) hS_14 ?_
   refine K.DW.l 6 rfl (by kernel_rfl) rfl (K.OW.callv rfl [.int .u32 (xs.getD k 0)] rfl rfl rfl (by kernel_rfl) (own_ok (xs.getD k 0) _) ?_)
   rintro _ w_19 ⟨rfl, c_18⟩
   have c_20 := c_15.no c_18
   have z_21 := c_20.size
   have zz_22 := c_18.size
   have hS_23 : (fun w => K.Chg K.No w0 w) w_19 := c_20
   refine ⟨.inl hS_23, ?_⟩
   refine K.DW.l 12 rfl (by kernel_rfl) rfl (K.OW.callv rfl [.int .u32 (xs.getD (k + 1) 0)] rfl rfl rfl (by kernel_rfl) (own_ok (xs.getD (k + 1) 0) _) ?_)
   rintro _ w_25 ⟨rfl, c_24⟩
   have c_26 := c_20.no c_24
   have z_27 := c_26.size
   have zz_28 := c_24.size
   have hS_29 : (fun w => K.Chg K.No w0 w) w_25 := c_26
   refine ⟨.inl hS_29, ?_⟩
   by_cases h_30 : (xs.getD k 0 : Int) ≥ (xs.getD (k + 1) 0 : Int)
   ·
    refine K.c 13 rfl (K.QR.nice (v := .bool (decide ((xs.getD k 0 : Int) ≥ (xs.getD (k + 1) 0 : Int)))) (by kernel_rfl) (congrArg Value.bool (decide_eq_true h_30))) hS_29 ?_
    refine K.DW.done (by kernel_rfl) ?_
    refine K.t (K.h (K.s ?_))
    refine K.g (K.q [.bool false] (K.z (K.t (K.r ?_))))
    refine K.blk_ret ?_
    refine K.u (K.u ?_)
    refine K.blk_ret ?_
    refine K.u ?_
    refine ⟨.inr rfl, rfl, (.bool false), K.res1 rfl rfl, ?_⟩
    exact ⟨congrArg Value.bool (by first | exact risingB_t fun j hj => (by assumption : ∀ j, j < k → j + 1 < xs.length → xs.getD j 0 < xs.getD (j + 1) 0) j (by omega) hj | exact risingB_f (j := k) (by omega) (by omega)), c_26⟩
   ·
    refine K.c 13 rfl (K.QR.nice (v := .bool (decide ((xs.getD k 0 : Int) ≥ (xs.getD (k + 1) 0 : Int)))) (by kernel_rfl) (congrArg Value.bool (decide_eq_false h_30))) hS_29 ?_
    refine K.DW.done (by kernel_rfl) ?_
    refine K.t (K.f (K.k ?_))
    refine K.blk_normal ?_
    refine K.t ?_
    refine K.g (K.q [K.iv ((k + 1 : Nat) : Int)] ?_)
    refine K.a (K.QR.n64 ((((k + 1 : Nat) : Int) : Int) + (1 : Int)) ((k + 1 + 1 : Nat) : Int) (by kernel_rfl) (by omega)) ?_
    refine K.q [K.iv ((k + 1 + 1 : Nat) : Int)] (K.z (K.t ?_))
    refine ⟨_, ?_, k + 1, rfl, ⟨by rfl, by rfl, by rfl, by rfl, trivial⟩, (fun j h h2 => by rcases Nat.lt_or_ge j k with h3 | h3 <;> first | exact (by assumption : ∀ j, j < k → j + 1 < xs.length → xs.getD j 0 < xs.getD (j + 1) 0) j h3 h2 | (rw [show j = k by omega]; omega)), c_26⟩
    omega
  ·
   refine K.x ((((k + 1 : Nat) : Int) : Int) < (((xs.length : Nat) : Int) : Int)) h_8 ?_
   refine K.z (K.t (K.f ?_))
   refine K.KW.exit ?_
   refine K.thn_exit ?_
   refine K.thn_exit ?_
   refine K.blk_hit ?_
   refine K.t (K.s ?_)
   refine K.g (K.q [.bool true] (K.z (K.t (K.r ?_))))
   refine ⟨.inr rfl, rfl, (.bool true), K.res1 rfl rfl, ?_⟩
   exact ⟨congrArg Value.bool (by first | exact risingB_t fun j hj => (by assumption : ∀ j, j < k → j + 1 < xs.length → xs.getD j 0 < xs.getD (j + 1) 0) j (by omega) hj | exact risingB_f (j := k) (by omega) (by omega)), c_5⟩
set_option maxHeartbeats 1000000 in
set_option maxRecDepth 100000 in
theorem risesP_ok (a : Option Addr) (cap : Nat) (xs : List PairM) (w0 : World) (hm : xs.length ≤ 1000000) (hx : RPr w0 a xs) :
  K.KC Try.prog 56 #[.slice a xs.length cap, .func (.func 57) [].toArray [].toArray] w0 (fun v w' => v = .bool (risingB (keysP xs)) ∧ K.Chg K.No w0 w') := by
 refine K.KC.mk (n := 26) Try.func56 rfl rfl [.slice a xs.length cap, .func (.func 57) [].toArray [].toArray] rfl rfl ?_
 refine K.s ?_
 refine K.g (K.q [.bool false] (K.z (K.t (K.s (K.s ?_)))))
 refine K.g (K.q [K.iv 1] (K.z (K.t ?_)))
 refine K.KW.block ?_
 refine K.KW.loop (fun m_ F_ w_1 => ∃ (k : Nat), m_ = xs.length - k ∧ K.Sl F_ [(0, .slice a xs.length cap), (1, .func (.func 57) [].toArray [].toArray), (5, K.iv ((k + 1 : Nat) : Int)), (26, undef)] ∧ ((∀ j, j < k → j + 1 < xs.length → (xs.getD j p0).key < (xs.getD (j + 1) p0).key)) ∧ K.Chg K.No w0 w_1) ((fun (k : Nat) => xs.length - k) 0) ?_ ?_
 ·
  exact ⟨0, rfl, ⟨by rfl, by rfl, by rfl, by rfl, trivial⟩, (fun j h => by omega), (K.Chg.refl _)⟩
 ·
  intro m_2 F_3 w_1 hI
  obtain ⟨k, rfl, sl_4, p_6, c_5⟩ := hI
  rw [← K.Sl.puts sl_4]; clear sl_4
  have z_7 := c_5.size
  refine K.s (K.s ?_)
  refine K.g (K.q [K.iv ((k + 1 : Nat) : Int), .slice a xs.length cap] ?_)
  refine K.a (K.QR.len (P := Try.prog) rfl rfl Try.underlying28) ?_
  by_cases h_8 : (((k + 1 : Nat) : Int) : Int) < (((xs.length : Nat) : Int) : Int)
  ·
   refine K.y ((((k + 1 : Nat) : Int) : Int) < (((xs.length : Nat) : Int) : Int)) h_8 ?_
   refine K.z (K.t (K.h (K.k (K.t (K.s ?_)))))
   refine K.KW.block ?_
   refine K.s ?_
   obtain ⟨b_9, of_10, rfl, _⟩ := hx.at_ (by omega)
   refine K.KW.drawn (fun w => K.Chg K.No w0 w) (by kernel_rfl) ?_
   intro w_11 e_12 hs_13
   have c_15 := c_5.no e_12
   have z_16 := c_15.size
   have zz_17 := e_12.size
   have hS_14 : (fun w => K.Chg K.No w0 w) w_11 := c_15
   refine K.p 0 rfl (.func (.func 57) [].toArray [].toArray) hS_14 ?_
   refine K.p 1 rfl (.slice (some ⟨b_9, of_10, none⟩) xs.length cap) hS_14 ?_
   refine K.p 2 rfl (K.iv ((k + 1 : Nat) : Int)) hS_14 ?_
   refine K.m 3 rfl (fun w hS => K.QR.turn (v := K.iv ((k + 1 - 1 : Nat) : Int)) (K.QR.n64 ((((k + 1 : Nat) : Int) : Int) - (1 : Int)) ((k + 1 - 1 : Nat) : Int) (by kernel_rfl) (by omega)) (congrArg (Value.int .i64) (show (((k + 1 - 1 : Nat) : Int) : Int) = (((k : Nat) : Int) : Int) from by omega))) hS_14 ?_
   refine K.m 4 rfl (fun w hS => K.QR.ix (of_10 + k * 2) 2 rfl rfl rfl Try.underlying28 (by kernel_rfl) (by omega) (by first | (simp; done) | omega | (simp; omega))) hS_14 ?_
   refine K.m 5 rfl (fun w hS => K.QR.ldN [.int .u32 ((xs.getD k p0).key), .int .u32 ((xs.getD k p0).val)] rfl rfl (by kernel_rfl) (by kernel_rfl) (K.cells (K.cl (hS.cell (hx.ld k (by omega) 0 _ rfl) id) (K.cl (hS.cell (hx.ld k (by omega) 1 _ rfl) id) K.cl0)))) hS_14 ?_
   refine K.p 7 rfl (.func (.func 57) [].toArray [].toArray) hS_14 ?_
   refine K.p 8 rfl (.slice (some ⟨b_9, of_10, none⟩) xs.length cap) hS_14 ?_
   refine K.p 9 rfl (K.iv ((k + 1 : Nat) : Int)) hS_14 ?_
   refine K.m 10 rfl (fun w hS => K.QR.ix (of_10 + (k + 1) * 2) 2 rfl rfl rfl Try.underlying28 (by kernel_rfl) (by omega) (by first | (simp; done) | omega | (simp; omega))) hS_14 ?_
   refine K.m 11 rfl (fun w hS => K.QR.ldN [.int .u32 ((xs.getD (k + 1) p0).key), .int .u32 ((xs.getD (k + 1) p0).val)] rfl rfl (by kernel_rfl) (by kernel_rfl) (K.cells (K.cl (hS.cell (hx.ld (k + 1) (by omega) 0 _ rfl) id) (K.cl (hS.cell (hx.ld (k + 1) (by omega) 1 _ rfl) id) K.cl0)))) hS_14 ?_
   refine K.DW.l 6 rfl (by kernel_rfl) rfl (K.OW.callv rfl [.agg #[.int .u32 ((xs.getD k p0).key), .int .u32 ((xs.getD k p0).val)]] rfl rfl rfl (by kernel_rfl) (first_ok ((xs.getD k p0).key) ((xs.getD k p0).val) _) ?_)
   rintro _ w_19 ⟨rfl, c_18⟩
   have c_20 := c_15.no c_18
   have z_21 := c_20.size
   have zz_22 := c_18.size
   have hS_23 : (fun w => K.Chg K.No w0 w) w_19 := c_20
   refine ⟨.inl hS_23, ?_⟩
   refine K.DW.l 12 rfl (by kernel_rfl) rfl (K.OW.callv rfl [.agg #[.int .u32 ((xs.getD (k + 1) p0).key), .int .u32 ((xs.getD (k + 1) p0).val)]] rfl rfl rfl (by kernel_rfl) (first_ok ((xs.getD (k + 1) p0).key) ((xs.getD (k + 1) p0).val) _) ?_)
   rintro _ w_25 ⟨rfl, c_24⟩
   have c_26 := c_20.no c_24
   have z_27 := c_26.size
   have zz_28 := c_24.size
   have hS_29 : (fun w => K.Chg K.No w0 w) w_25 := c_26
   refine ⟨.inl hS_29, ?_⟩
   by_cases h_30 : ((xs.getD k p0).key : Int) ≥ ((xs.getD (k + 1) p0).key : Int)
   ·
    refine K.c 13 rfl (K.QR.nice (v := .bool (decide (((xs.getD k p0).key : Int) ≥ ((xs.getD (k + 1) p0).key : Int)))) (by kernel_rfl) (congrArg Value.bool (decide_eq_true h_30))) hS_29 ?_
    refine K.DW.done (by kernel_rfl) ?_
    refine K.t (K.h (K.s ?_))
    refine K.g (K.q [.bool false] (K.z (K.t (K.r ?_))))
    refine K.blk_ret ?_
    refine K.u (K.u ?_)
    refine K.blk_ret ?_
    refine K.u ?_
    refine ⟨.inr rfl, rfl, (.bool false), K.res1 rfl rfl, ?_⟩
    exact ⟨congrArg Value.bool (by first | exact risingB_tP fun j hj => (by assumption : ∀ j, j < k → j + 1 < xs.length → (xs.getD j p0).key < (xs.getD (j + 1) p0).key) j (by omega) hj | exact risingB_fP (j := k) (by omega) (by omega)), c_26⟩
   ·
    refine K.c 13 rfl (K.QR.nice (v := .bool (decide (((xs.getD k p0).key : Int) ≥ ((xs.getD (k + 1) p0).key : Int)))) (by kernel_rfl) (congrArg Value.bool (decide_eq_false h_30))) hS_29 ?_
    refine K.DW.done (by kernel_rfl) ?_
    refine K.t (K.f (K.k ?_))
    refine K.blk_normal ?_
    refine K.t ?_
    refine K.g (K.q [K.iv ((k + 1 : Nat) : Int)] ?_)
    refine K.a (K.QR.n64 ((((k + 1 : Nat) : Int) : Int) + (1 : Int)) ((k + 1 + 1 : Nat) : Int) (by kernel_rfl) (by omega)) ?_
    refine K.q [K.iv ((k + 1 + 1 : Nat) : Int)] (K.z (K.t ?_))
    refine ⟨_, ?_, k + 1, rfl, ⟨by rfl, by rfl, by rfl, by rfl, trivial⟩, (fun j h h2 => by rcases Nat.lt_or_ge j k with h3 | h3 <;> first | exact (by assumption : ∀ j, j < k → j + 1 < xs.length → (xs.getD j p0).key < (xs.getD (j + 1) p0).key) j h3 h2 | (rw [show j = k by omega]; omega)), c_26⟩
    omega
  ·
   refine K.x ((((k + 1 : Nat) : Int) : Int) < (((xs.length : Nat) : Int) : Int)) h_8 ?_
   refine K.z (K.t (K.f ?_))
   refine K.KW.exit ?_
   refine K.thn_exit ?_
   refine K.thn_exit ?_
   refine K.blk_hit ?_
   refine K.t (K.s ?_)
   refine K.g (K.q [.bool true] (K.z (K.t (K.r ?_))))
   refine ⟨.inr rfl, rfl, (.bool true), K.res1 rfl rfl, ?_⟩
   exact ⟨congrArg Value.bool (by first | exact risingB_tP fun j hj => (by assumption : ∀ j, j < k → j + 1 < xs.length → (xs.getD j p0).key < (xs.getD (j + 1) p0).key) j (by omega) hj | exact risingB_fP (j := k) (by omega) (by omega)), c_5⟩
set_option maxHeartbeats 1000000 in
set_option maxRecDepth 100000 in
theorem right_ok (q s m : Option Addr) (nq cq cs cm : Nat) (sa : List Int) (ma : List PairM) (w0 : World) (h2 : sa.length ≤ 1000) (h3 : ma.length ≤ 1000) (x2 : RU32 w0 s sa) (x3 : RPr w0 m ma) :
  K.KC Try.prog 43 #[.agg #[.slice q nq cq, .slice s sa.length cs, .slice m ma.length cm]] w0 (fun v w' => v = .bool (risingB sa && risingB (keysP ma)) ∧ K.Chg K.No w0 w') := by
 refine K.KC.mk (n := 11) Try.func43 rfl rfl [.agg #[.slice q nq cq, .slice s sa.length cs, .slice m ma.length cm]] rfl rfl ?_
 refine K.s ?_
 refine K.g ?_
 refine K.l (K.OW.new (t := 30) rfl (fun r => K.pa r) [.slice q nq cq, .slice s sa.length cs, .slice m ma.length cm] (by kernel_rfl) ?_)
 intro w_1 r_2 hr_3 e_4 hs_5 b_6
 have c_7 := e_4
 have z_8 := c_7.size
 have zz_9 := e_4.size
 refine K.q [.bool false] (K.z (K.t (K.s ?_)))
 refine K.g (K.q [.pointer (some ⟨r_2, 1, none⟩)] ?_)
 refine K.d (.slice s sa.length cs) (b_6.cell rfl) ?_
 refine K.l (K.OW.call rfl [.slice s sa.length cs, .func (.func 55) [].toArray [].toArray] rfl rfl (by kernel_rfl) (risesU_ok _ _ sa _ (by omega) (x2.no c_7)) ?_)
 rintro v_13 w_11 ⟨hv_12, c_10⟩
 have c_14 := c_7.no c_10
 have z_15 := c_14.size
 have zz_16 := c_10.size
 have f_17 := b_6.no c_10
 rcases Bool.eq_false_or_eq_true (risingB sa) with hb_18 | hb_18
 ·
  rw [hb_18] at hv_12; subst hv_12
  refine K.q [.bool true, .pointer (some ⟨r_2, 2, none⟩)] ?_
  refine K.d (.slice m ma.length cm) (f_17.cell rfl) ?_
  refine K.l (K.OW.call rfl [.slice m ma.length cm, .func (.func 57) [].toArray [].toArray] rfl rfl (by kernel_rfl) (risesP_ok _ _ ma _ (by omega) (x3.no c_14)) ?_)
  rintro v_22 w_20 ⟨hv_21, c_19⟩
  have c_23 := c_14.no c_19
  have z_24 := c_23.size
  have zz_25 := c_19.size
  have f_26 := f_17.no c_19
  rcases Bool.eq_false_or_eq_true (risingB (keysP ma)) with hb_27 | hb_27
  ·
   rw [hb_27] at hv_21; subst hv_21
   refine K.q [.bool true, .bool true] (K.z (K.t (K.r ?_)))
   refine ⟨.inr rfl, rfl, (.bool true), K.res1 rfl rfl, ?_⟩
   exact ⟨congrArg Value.bool (by first | (rw [(by assumption : risingB sa = true), (by assumption : risingB (keysP ma) = true)]; rfl) | (rw [(by assumption : risingB sa = true), (by assumption : risingB (keysP ma) = false)]; rfl) | (rw [(by assumption : risingB sa = false)]; rfl)), c_23⟩
  ·
   rw [hb_27] at hv_21; subst hv_21
   refine K.q [.bool false, .bool false] (K.z (K.t (K.r ?_)))
   refine ⟨.inr rfl, rfl, (.bool false), K.res1 rfl rfl, ?_⟩
   exact ⟨congrArg Value.bool (by first | (rw [(by assumption : risingB sa = true), (by assumption : risingB (keysP ma) = true)]; rfl) | (rw [(by assumption : risingB sa = true), (by assumption : risingB (keysP ma) = false)]; rfl) | (rw [(by assumption : risingB sa = false)]; rfl)), c_23⟩
 ·
  rw [hb_18] at hv_12; subst hv_12
  refine K.q [.bool false] (K.n_ (K.n_ (K.n_ (K.q [.bool false, .bool false] (K.z (K.t (K.r ?_)))))))
  refine ⟨.inr rfl, rfl, (.bool false), K.res1 rfl rfl, ?_⟩
  exact ⟨congrArg Value.bool (by first | (rw [(by assumption : risingB sa = true), (by assumption : risingB (keysP ma) = true)]; rfl) | (rw [(by assumption : risingB sa = true), (by assumption : risingB (keysP ma) = false)]; rfl) | (rw [(by assumption : risingB sa = false)]; rfl)), c_14⟩
theorem and_t {a b : Bool} (h : true = a) (h2 : true = b) : true = (a && b) := by rw [← h, ← h2]; rfl
theorem and_f1 {a b : Bool} (h : false = a) : false = (a && b) := by rw [← h]; rfl
theorem and_f2 {a b : Bool} (h : true = a) (h2 : false = b) : false = (a && b) := by rw [← h, ← h2]; rfl
set_option maxHeartbeats 1000000 in
set_option maxRecDepth 100000 in
theorem rright_ok (q s m : Option Addr) (nq cq cs cm : Nat) (sa : List Int) (ma : List PairM) (w0 : World) (h2 : sa.length ≤ 1000) (h3 : ma.length ≤ 1000) (x2 : RU32 w0 s sa) (x3 : RPr w0 m ma) :
  K.KC Try.prog 14 #[.agg #[.slice q nq cq, .slice s sa.length cs, .slice m ma.length cm]] w0 (fun v w' => v = .bool (risingB sa && risingB (keysP ma)) ∧ K.Chg K.No w0 w') := by
 refine K.KC.mk (n := 45) Try.func14 rfl rfl [.agg #[.slice q nq cq, .slice s sa.length cs, .slice m ma.length cm]] rfl rfl ?_
 refine K.s ?_
 refine K.g ?_
 refine K.l (K.OW.new (t := 30) rfl (fun r => K.pa r) [.slice q nq cq, .slice s sa.length cs, .slice m ma.length cm] (by kernel_rfl) ?_)
 intro w_1 r_2 hr_3 e_4 hs_5 b_6
 have c_7 := e_4
 have z_8 := c_7.size
 have zz_9 := e_4.size
 refine K.q [.bool false] (K.z (K.t (K.s (K.s ?_))))
 refine K.g (K.q [K.iv 1] (K.z (K.t ?_)))
 refine K.KW.block ?_
 refine K.KW.loop (fun m_ F_ w_10 => ∃ (i : Nat), m_ = sa.length - i ∧ K.Sl F_ [(0, .agg #[.slice q nq cq, .slice s sa.length cs, .slice m ma.length cm]), (1, K.pa r_2), (3, K.iv ((i + 1 : Nat) : Int)), (45, undef)] ∧ ((∀ j, j < i → j + 1 < sa.length → sa.getD j 0 < sa.getD (j + 1) 0)) ∧ K.Chg K.No w0 w_10 ∧ K.Blk w_10 r_2 30 [.slice q nq cq, .slice s sa.length cs, .slice m ma.length cm]) ((fun (i : Nat) => sa.length - i) 0) ?_ ?_
 ·
  exact ⟨0, rfl, ⟨by rfl, by rfl, by rfl, by rfl, trivial⟩, (fun j h => by omega), c_7, b_6⟩
 ·
  intro m_12 F_13 w_10 hI
  obtain ⟨i, rfl, sl_14, p_16, c_15, f_17⟩ := hI
  rw [← K.Sl.puts sl_14]; clear sl_14
  have z_18 := c_15.size
  refine K.s (K.s ?_)
  refine K.g (K.q [K.iv ((i + 1 : Nat) : Int), .pointer (some ⟨r_2, 1, none⟩)] ?_)
  refine K.d (.slice s sa.length cs) (f_17.cell rfl) ?_
  refine K.a (K.QR.len (P := Try.prog) rfl rfl Try.underlying27) ?_
  by_cases h_19 : (((i + 1 : Nat) : Int) : Int) < (((sa.length : Nat) : Int) : Int)
  ·
   refine K.y ((((i + 1 : Nat) : Int) : Int) < (((sa.length : Nat) : Int) : Int)) h_19 ?_
   refine K.z (K.t (K.h (K.k (K.t (K.s ?_)))))
   refine K.KW.block ?_
   refine K.s ?_
   obtain ⟨b_20, of_21, rfl, _⟩ := x2.at_ (by omega)
   refine K.KW.drawn (fun w => K.Chg K.No w0 w ∧ (w.cell? ⟨r_2, 1, none⟩ = some (.slice (some ⟨b_20, of_21, none⟩) sa.length cs))) (by kernel_rfl) ?_
   intro w_22 e_23 hs_24
   have c_26 := c_15.no e_23
   have z_27 := c_26.size
   have zz_28 := e_23.size
   have f_29 := f_17.no e_23
   have hS_25 : (fun w => K.Chg K.No w0 w ∧ (w.cell? ⟨r_2, 1, none⟩ = some (.slice (some ⟨b_20, of_21, none⟩) sa.length cs))) w_22 := ⟨c_26, ((f_29).cell rfl)⟩
   refine K.p 0 rfl (.pointer (some ⟨r_2, 1, none⟩)) hS_25 ?_
   refine K.o_ 1 rfl (.slice (some ⟨b_20, of_21, none⟩) sa.length cs) (fun w hS => (hS.2)) hS_25 ?_
   refine K.p 2 rfl (K.iv ((i + 1 : Nat) : Int)) hS_25 ?_
   refine K.m 3 rfl (fun w hS => K.QR.turn (v := K.iv ((i + 1 - 1 : Nat) : Int)) (K.QR.n64 ((((i + 1 : Nat) : Int) : Int) - (1 : Int)) ((i + 1 - 1 : Nat) : Int) (by kernel_rfl) (by omega)) (congrArg (Value.int .i64) (show (((i + 1 - 1 : Nat) : Int) : Int) = (((i : Nat) : Int) : Int) from by omega))) hS_25 ?_
   refine K.m 4 rfl (fun w hS => K.QR.ix (of_21 + i * 1) 1 rfl rfl rfl Try.underlying27 (by kernel_rfl) (by omega) (by first | (simp; done) | omega | (simp; omega))) hS_25 ?_
   refine K.o_ 5 rfl (.int .u32 (sa.getD i 0)) (fun w hS => (hS.1.cell (x2.ld i (by omega) 0 _ rfl) id)) hS_25 ?_
   refine K.p 6 rfl (.pointer (some ⟨r_2, 1, none⟩)) hS_25 ?_
   refine K.o_ 7 rfl (.slice (some ⟨b_20, of_21, none⟩) sa.length cs) (fun w hS => (hS.2)) hS_25 ?_
   refine K.b 8 rfl (K.iv ((i + 1 : Nat) : Int)) hS_25 ?_
   refine K.c 9 rfl (K.QR.ix (of_21 + (i + 1) * 1) 1 rfl rfl rfl Try.underlying27 (by kernel_rfl) (by omega) (by first | (simp; done) | omega | (simp; omega))) hS_25 ?_
   refine K.c 10 rfl (K.QR.ld1 (v := .int .u32 (sa.getD (i + 1) 0)) rfl rfl (by kernel_rfl) (c_26.cell (x2.ld (i + 1) (by omega) 0 _ rfl) id)) hS_25 ?_
   by_cases h_30 : (sa.getD i 0 : Int) ≥ (sa.getD (i + 1) 0 : Int)
   ·
    refine K.c 11 rfl (K.QR.nice (v := .bool (decide ((sa.getD i 0 : Int) ≥ (sa.getD (i + 1) 0 : Int)))) (by kernel_rfl) (congrArg Value.bool (decide_eq_true h_30))) hS_25 ?_
    refine K.DW.done (by kernel_rfl) ?_
    refine K.t (K.h (K.s ?_))
    refine K.g (K.q [.bool false] (K.z (K.t (K.r ?_))))
    refine K.blk_ret ?_
    refine K.u (K.u ?_)
    refine K.blk_ret ?_
    refine K.u ?_
    refine ⟨.inr rfl, rfl, (.bool false), K.res1 rfl rfl, ?_⟩
    exact ⟨congrArg Value.bool (by first | exact and_t (by assumption) (risingB_tP fun j hj => (by assumption : ∀ j, j < k → j + 1 < ma.length → (ma.getD j p0).key < (ma.getD (j + 1) p0).key) j (by omega) hj) | exact and_f2 (by assumption) (risingB_fP (j := k) (by omega) (by omega)) | exact and_f1 (risingB_f (j := i) (by omega) (by omega))), c_26⟩
   ·
    refine K.c 11 rfl (K.QR.nice (v := .bool (decide ((sa.getD i 0 : Int) ≥ (sa.getD (i + 1) 0 : Int)))) (by kernel_rfl) (congrArg Value.bool (decide_eq_false h_30))) hS_25 ?_
    refine K.DW.done (by kernel_rfl) ?_
    refine K.t (K.f (K.k ?_))
    refine K.blk_normal ?_
    refine K.t ?_
    refine K.g (K.q [K.iv ((i + 1 : Nat) : Int)] ?_)
    refine K.a (K.QR.n64 ((((i + 1 : Nat) : Int) : Int) + (1 : Int)) ((i + 1 + 1 : Nat) : Int) (by kernel_rfl) (by omega)) ?_
    refine K.q [K.iv ((i + 1 + 1 : Nat) : Int)] (K.z (K.t ?_))
    refine ⟨_, ?_, i + 1, rfl, ⟨by rfl, by rfl, by rfl, by rfl, trivial⟩, (fun j h h2 => by rcases Nat.lt_or_ge j i with h3 | h3 <;> first | exact (by assumption : ∀ j, j < i → j + 1 < sa.length → sa.getD j 0 < sa.getD (j + 1) 0) j h3 h2 | (rw [show j = i by omega]; omega)), c_26, f_29⟩
    omega
  ·
   refine K.x ((((i + 1 : Nat) : Int) : Int) < (((sa.length : Nat) : Int) : Int)) h_19 ?_
   refine K.z (K.t (K.f ?_))
   refine K.KW.exit ?_
   refine K.thn_exit ?_
   refine K.thn_exit ?_
   refine K.blk_hit ?_
   refine K.t (K.s (K.s ?_))
   refine K.g (K.q [K.iv 1] (K.z (K.t ?_)))
   refine K.KW.block ?_
   refine K.KW.loop (fun m_ F_ w_31 => ∃ (k : Nat), m_ = ma.length - k ∧ K.Sl F_ [(0, .agg #[.slice q nq cq, .slice s sa.length cs, .slice m ma.length cm]), (1, K.pa r_2), (4, K.iv ((k + 1 : Nat) : Int)), (45, undef)] ∧ ((∀ j, j < k → j + 1 < ma.length → (ma.getD j p0).key < (ma.getD (j + 1) p0).key)) ∧ true = risingB sa ∧ K.Chg K.No w0 w_31 ∧ K.Blk w_31 r_2 30 [.slice q nq cq, .slice s sa.length cs, .slice m ma.length cm]) ((fun (k : Nat) => ma.length - k) 0) ?_ ?_
   ·
    exact ⟨0, rfl, ⟨by rfl, by rfl, by rfl, by rfl, trivial⟩, (fun j h => by omega), (by exact risingB_t fun j hj => (by assumption : ∀ j, j < i → j + 1 < sa.length → sa.getD j 0 < sa.getD (j + 1) 0) j (by omega) hj), c_15, f_17⟩
   ·
    intro m_33 F_34 w_31 hI
    obtain ⟨k, rfl, sl_35, p_37, p_38, c_36, f_39⟩ := hI
    rw [← K.Sl.puts sl_35]; clear sl_35
    have z_40 := c_36.size
    refine K.s (K.s ?_)
    refine K.g (K.q [K.iv ((k + 1 : Nat) : Int), .pointer (some ⟨r_2, 2, none⟩)] ?_)
    refine K.d (.slice m ma.length cm) (f_39.cell rfl) ?_
    refine K.a (K.QR.len (P := Try.prog) rfl rfl Try.underlying28) ?_
    by_cases h_41 : (((k + 1 : Nat) : Int) : Int) < (((ma.length : Nat) : Int) : Int)
    ·
     refine K.y ((((k + 1 : Nat) : Int) : Int) < (((ma.length : Nat) : Int) : Int)) h_41 ?_
     refine K.z (K.t (K.h (K.k (K.t (K.s ?_)))))
     refine K.KW.block ?_
     refine K.s ?_
     obtain ⟨b_42, of_43, rfl, _⟩ := x3.at_ (by omega)
     refine K.KW.drawn (fun w => K.Chg K.No w0 w ∧ (w.cell? ⟨r_2, 2, none⟩ = some (.slice (some ⟨b_42, of_43, none⟩) ma.length cm))) (by kernel_rfl) ?_
     intro w_44 e_45 hs_46
     have c_48 := c_36.no e_45
     have z_49 := c_48.size
     have zz_50 := e_45.size
     have f_51 := f_39.no e_45
     have hS_47 : (fun w => K.Chg K.No w0 w ∧ (w.cell? ⟨r_2, 2, none⟩ = some (.slice (some ⟨b_42, of_43, none⟩) ma.length cm))) w_44 := ⟨c_48, ((f_51).cell rfl)⟩
     refine K.p 0 rfl (.pointer (some ⟨r_2, 2, none⟩)) hS_47 ?_
     refine K.o_ 1 rfl (.slice (some ⟨b_42, of_43, none⟩) ma.length cm) (fun w hS => (hS.2)) hS_47 ?_
     refine K.p 2 rfl (K.iv ((k + 1 : Nat) : Int)) hS_47 ?_
     refine K.m 3 rfl (fun w hS => K.QR.turn (v := K.iv ((k + 1 - 1 : Nat) : Int)) (K.QR.n64 ((((k + 1 : Nat) : Int) : Int) - (1 : Int)) ((k + 1 - 1 : Nat) : Int) (by kernel_rfl) (by omega)) (congrArg (Value.int .i64) (show (((k + 1 - 1 : Nat) : Int) : Int) = (((k : Nat) : Int) : Int) from by omega))) hS_47 ?_
     refine K.m 4 rfl (fun w hS => K.QR.ix (of_43 + k * 2) 2 rfl rfl rfl Try.underlying28 (by kernel_rfl) (by omega) (by first | (simp; done) | omega | (simp; omega))) hS_47 ?_
     refine K.p 5 rfl (.pointer (some ⟨b_42, of_43 + k * 2, none⟩)) hS_47 ?_
     refine K.o_ 6 rfl (.int .u32 ((ma.getD k p0).key)) (fun w hS => (hS.1.cell (x3.ld k (by omega) 0 _ rfl) id)) hS_47 ?_
     refine K.p 7 rfl (.pointer (some ⟨r_2, 2, none⟩)) hS_47 ?_
     refine K.o_ 8 rfl (.slice (some ⟨b_42, of_43, none⟩) ma.length cm) (fun w hS => (hS.2)) hS_47 ?_
     refine K.b 9 rfl (K.iv ((k + 1 : Nat) : Int)) hS_47 ?_
     refine K.c 10 rfl (K.QR.ix (of_43 + (k + 1) * 2) 2 rfl rfl rfl Try.underlying28 (by kernel_rfl) (by omega) (by first | (simp; done) | omega | (simp; omega))) hS_47 ?_
     refine K.b 11 rfl (.pointer (some ⟨b_42, of_43 + (k + 1) * 2, none⟩)) hS_47 ?_
     refine K.c 12 rfl (K.QR.ld1 (v := .int .u32 ((ma.getD (k + 1) p0).key)) rfl rfl (by kernel_rfl) (c_48.cell (x3.ld (k + 1) (by omega) 0 _ rfl) id)) hS_47 ?_
     by_cases h_52 : ((ma.getD k p0).key : Int) ≥ ((ma.getD (k + 1) p0).key : Int)
     ·
      refine K.c 13 rfl (K.QR.nice (v := .bool (decide (((ma.getD k p0).key : Int) ≥ ((ma.getD (k + 1) p0).key : Int)))) (by kernel_rfl) (congrArg Value.bool (decide_eq_true h_52))) hS_47 ?_
      refine K.DW.done (by kernel_rfl) ?_
      refine K.t (K.h (K.s ?_))
      refine K.g (K.q [.bool false] (K.z (K.t (K.r ?_))))
      refine K.blk_ret ?_
      refine K.u (K.u ?_)
      refine K.blk_ret ?_
      refine K.u ?_
      refine ⟨.inr rfl, rfl, (.bool false), K.res1 rfl rfl, ?_⟩
      exact ⟨congrArg Value.bool (by first | exact and_t (by assumption) (risingB_tP fun j hj => (by assumption : ∀ j, j < k → j + 1 < ma.length → (ma.getD j p0).key < (ma.getD (j + 1) p0).key) j (by omega) hj) | exact and_f2 (by assumption) (risingB_fP (j := k) (by omega) (by omega)) | exact and_f1 (risingB_f (j := i) (by omega) (by omega))), c_48⟩
     ·
      refine K.c 13 rfl (K.QR.nice (v := .bool (decide (((ma.getD k p0).key : Int) ≥ ((ma.getD (k + 1) p0).key : Int)))) (by kernel_rfl) (congrArg Value.bool (decide_eq_false h_52))) hS_47 ?_
      refine K.DW.done (by kernel_rfl) ?_
      refine K.t (K.f (K.k ?_))
      refine K.blk_normal ?_
      refine K.t ?_
      refine K.g (K.q [K.iv ((k + 1 : Nat) : Int)] ?_)
      refine K.a (K.QR.n64 ((((k + 1 : Nat) : Int) : Int) + (1 : Int)) ((k + 1 + 1 : Nat) : Int) (by kernel_rfl) (by omega)) ?_
      refine K.q [K.iv ((k + 1 + 1 : Nat) : Int)] (K.z (K.t ?_))
      refine ⟨_, ?_, k + 1, rfl, ⟨by rfl, by rfl, by rfl, by rfl, trivial⟩, (fun j h h2 => by rcases Nat.lt_or_ge j k with h3 | h3 <;> first | exact (by assumption : ∀ j, j < k → j + 1 < ma.length → (ma.getD j p0).key < (ma.getD (j + 1) p0).key) j h3 h2 | (rw [show j = k by omega]; omega)), (by assumption), c_48, f_51⟩
      omega
    ·
     refine K.x ((((k + 1 : Nat) : Int) : Int) < (((ma.length : Nat) : Int) : Int)) h_41 ?_
     refine K.z (K.t (K.f ?_))
     refine K.KW.exit ?_
     refine K.thn_exit ?_
     refine K.thn_exit ?_
     refine K.blk_hit ?_
     refine K.t (K.s ?_)
     refine K.g (K.q [.bool true] (K.z (K.t (K.r ?_))))
     refine ⟨.inr rfl, rfl, (.bool true), K.res1 rfl rfl, ?_⟩
     exact ⟨congrArg Value.bool (by first | exact and_t (by assumption) (risingB_tP fun j hj => (by assumption : ∀ j, j < k → j + 1 < ma.length → (ma.getD j p0).key < (ma.getD (j + 1) p0).key) j (by omega) hj) | exact and_f2 (by assumption) (risingB_fP (j := k) (by omega) (by omega)) | exact and_f1 (risingB_f (j := i) (by omega) (by omega))), c_36⟩
end Go.Proofs.Ytnehocjmgnhhhaa
