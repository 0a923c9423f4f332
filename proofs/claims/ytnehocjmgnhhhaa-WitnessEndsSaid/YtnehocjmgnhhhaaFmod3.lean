import Derived.Test.YtnehocjmgnhhhaaFmod2
import Derived.Test.YtnehocjmgnhhhaaKn
/- package model: Apply. -/
namespace Go.Proofs.Ytnehocjmgnhhhaa
open Go.RowKit
set_option linter.unusedVariables false
attribute [local irreducible] K.KW K.RW K.DW K.OW K.QR K.KC
structure StM where
 q : List Int
 s : List Int
 m : List PairM
def applyT (S : StM) (kind key val : Int) : StM × Int × Int :=
 if kind = 1 ∨ kind = 2 then (⟨(queueT S.q kind val).1, S.s, S.m⟩, (queueT S.q kind val).2)
 else if 3 ≤ kind ∧ kind ≤ 5 then (⟨S.q, (setT S.s kind key).1, S.m⟩, (setT S.s kind key).2, 0)
 else if 6 ≤ kind ∧ kind ≤ 8 then (⟨S.q, S.s, (pairsT S.m kind key val).1⟩, (pairsT S.m kind key val).2)
 else (S, 0, 0)
set_option maxHeartbeats 4000000 in
set_option maxRecDepth 100000 in
theorem apply_ok (q s m : Option Addr) (cq cs cm : Nat) (qa sa : List Int) (ma : List PairM) (kind key val : Int) (w0 : World) (h1 : qa.length ≤ 1000000) (h2 : sa.length ≤ 1000000) (h3 : ma.length ≤ 1000000) (hr1 : rising sa) (hr2 : rising (keysP ma)) (x1 : RU32 w0 q qa) (x2 : RU32 w0 s sa) (x3 : RPr w0 m ma) :
  K.KC Try.prog 46 #[.agg #[.slice q qa.length cq, .slice s sa.length cs, .slice m ma.length cm], .agg #[K.iv kind, .int .u32 key, .int .u32 val]] w0 (fun v w' => K.Chg K.No w0 w' ∧ ((∃ a' c', v = .tuple #[.agg #[.slice a' (applyT ⟨qa, sa, ma⟩ kind key val).1.q.length c', .slice s sa.length cs, .slice m ma.length cm], .agg #[K.iv (applyT ⟨qa, sa, ma⟩ kind key val).2.1, .int .u32 (applyT ⟨qa, sa, ma⟩ kind key val).2.2]] ∧ K.Own w' w0.heap.size 45 1 a' (applyT ⟨qa, sa, ma⟩ kind key val).1.q.length c' ((applyT ⟨qa, sa, ma⟩ kind key val).1.q.flatMap cU32) ∧ (applyT ⟨qa, sa, ma⟩ kind key val).1.s = sa ∧ (applyT ⟨qa, sa, ma⟩ kind key val).1.m = ma) ∨ (∃ a' c', v = .tuple #[.agg #[.slice q qa.length cq, .slice a' (applyT ⟨qa, sa, ma⟩ kind key val).1.s.length c', .slice m ma.length cm], .agg #[K.iv (applyT ⟨qa, sa, ma⟩ kind key val).2.1, .int .u32 (applyT ⟨qa, sa, ma⟩ kind key val).2.2]] ∧ K.Own w' w0.heap.size 45 1 a' (applyT ⟨qa, sa, ma⟩ kind key val).1.s.length c' ((applyT ⟨qa, sa, ma⟩ kind key val).1.s.flatMap cU32) ∧ (applyT ⟨qa, sa, ma⟩ kind key val).1.q = qa ∧ (applyT ⟨qa, sa, ma⟩ kind key val).1.m = ma) ∨ (∃ a' c', v = .tuple #[.agg #[.slice q qa.length cq, .slice s sa.length cs, .slice a' (applyT ⟨qa, sa, ma⟩ kind key val).1.m.length c'], .agg #[K.iv (applyT ⟨qa, sa, ma⟩ kind key val).2.1, .int .u32 (applyT ⟨qa, sa, ma⟩ kind key val).2.2]] ∧ K.Own w' w0.heap.size 59 2 a' (applyT ⟨qa, sa, ma⟩ kind key val).1.m.length c' ((applyT ⟨qa, sa, ma⟩ kind key val).1.m.flatMap cPair) ∧ (applyT ⟨qa, sa, ma⟩ kind key val).1.q = qa ∧ (applyT ⟨qa, sa, ma⟩ kind key val).1.s = sa) ∨ (v = .tuple #[.agg #[.slice q qa.length cq, .slice s sa.length cs, .slice m ma.length cm], .agg #[K.iv (applyT ⟨qa, sa, ma⟩ kind key val).2.1, .int .u32 (applyT ⟨qa, sa, ma⟩ kind key val).2.2]] ∧ (applyT ⟨qa, sa, ma⟩ kind key val).1 = ⟨qa, sa, ma⟩))) := by
 refine K.KC.mk (n := 36) Try.func46 rfl rfl [.agg #[.slice q qa.length cq, .slice s sa.length cs, .slice m ma.length cm], .agg #[K.iv kind, .int .u32 key, .int .u32 val]] rfl rfl ?_
 refine K.s ?_
 refine K.g ?_
 refine K.l (K.OW.new (t := 30) rfl (fun r => K.pa r) [.slice q qa.length cq, .slice s sa.length cs, .slice m ma.length cm] (by kernel_rfl) ?_)
 intro w_1 r_2 hr_3 e_4 hs_5 b_6
 have c_7 := e_4
 have z_8 := c_7.size
 have zz_9 := e_4.size
 refine K.l (K.OW.new (t := 47) rfl (fun r => K.pa r) [K.iv kind, .int .u32 key, .int .u32 val] (by kernel_rfl) ?_)
 intro w_10 r_11 hr_12 e_13 hs_14 b_15
 have c_16 := c_7.no e_13
 have z_17 := c_16.size
 have zz_18 := e_13.size
 have f_19 := b_6.no e_13
 refine K.l (K.OW.new (t := 30) rfl (fun r => K.pa r) [.slice none 0 0, .slice none 0 0, .slice none 0 0] (by kernel_rfl) ?_)
 intro w_20 r_21 hr_22 e_23 hs_24 b_25
 have c_26 := c_16.no e_23
 have z_27 := c_26.size
 have zz_28 := e_23.size
 have f_29 := f_19.no e_23
 have f_30 := b_15.no e_23
 refine K.l (K.OW.new (t := 49) rfl (fun r => K.pa r) [K.iv 0, .int .u32 0] (by kernel_rfl) ?_)
 intro w_31 r_32 hr_33 e_34 hs_35 b_36
 have c_37 := c_26.no e_34
 have z_38 := c_37.size
 have zz_39 := e_34.size
 have f_40 := f_29.no e_34
 have f_41 := f_30.no e_34
 have f_42 := b_25.no e_34
 refine K.z (K.t (K.s (K.s ?_)))
 refine K.g (K.q [K.pa r_11] ?_)
 refine K.d (K.iv kind) (f_41.cell rfl) ?_
 refine K.z (K.t ?_)
 refine K.KW.block ?_
 refine K.s (K.s ?_)
 refine K.g ?_
 by_cases h_43 : (kind : Int) = (1 : Int)
 ·
  refine K.ye (kind : Int) (1 : Int) h_43 ?_
  refine K.q [.bool true] (K.z (K.t (K.h (K.k (K.t (K.h (K.s ?_)))))))
  refine K.g ?_
  refine K.a (K.QR.ldN [.slice q qa.length cq, .slice s sa.length cs, .slice m ma.length cm] rfl rfl (by kernel_rfl) (by kernel_rfl) (K.cells (K.cl (f_40.cell rfl) (K.cl (f_40.cell rfl) (K.cl (f_40.cell rfl) K.cl0))))) ?_
  refine K.a (K.QR.ldN [K.iv kind, .int .u32 key, .int .u32 val] rfl rfl (by kernel_rfl) (by kernel_rfl) (K.cells (K.cl (f_41.cell rfl) (K.cl (f_41.cell rfl) (K.cl (f_41.cell rfl) K.cl0))))) ?_
  refine K.l (K.OW.call rfl [.agg #[.slice q qa.length cq, .slice s sa.length cs, .slice m ma.length cm], .agg #[K.iv kind, .int .u32 key, .int .u32 val]] rfl rfl (by kernel_rfl) (queue_ok _ _ _ _ _ _ _ _ qa (queueT qa kind val).1 kind key val (queueT qa kind val).2.1 (queueT qa kind val).2.2 _ (by omega) (x1.no c_37) rfl) ?_)
  rintro _ w_46 (⟨m_44, c_45, rfl, ch_47, hx_48⟩ | ⟨hs_49, rfl, ch_50⟩)
  ·
   have c_51 := c_37.no ch_47
   have z_52 := c_51.size
   have zz_53 := ch_47.size
   have f_54 := f_40.no ch_47
   have f_55 := f_41.no ch_47
   have f_56 := f_42.no ch_47
   have f_57 := b_36.no ch_47
   have o_58 := K.Own.mono (base' := w0.heap.size) hx_48 (by omega)
   refine K.q [.agg #[.slice m_44 ((queueT qa kind val).1.length) c_45, .slice s sa.length cs, .slice m ma.length cm], .agg #[K.iv ((queueT qa kind val).2.1), .int .u32 ((queueT qa kind val).2.2)]] ?_
   refine K.l (K.OW.st [.slice m_44 ((queueT qa kind val).1.length) c_45, .slice s sa.length cs, .slice m ma.length cm] [.slice m_44 ((queueT qa kind val).1.length) c_45, .slice s sa.length cs, .slice m ma.length cm] rfl rfl rfl (by kernel_rfl) f_56 rfl (K.one_cells (by rfl)) rfl rfl ?_)
   intro w_59 e_60 hs_61 b_62
   have c_63 := c_51.own e_60 (by omega)
   have z_64 := c_63.size
   have zz_65 := e_60.size
   have f_66 := f_54.chg e_60 (by unfold K.Is; omega)
   have f_67 := f_55.chg e_60 (f_55.ne f_56 (by decide))
   have f_68 := f_57.chg e_60 (f_57.ne f_56 (by decide))
   have f_69 := o_58.chg e_60 (fun k hk hy => o_58.ne_ty f_56 (by decide) k hk hy)
   refine K.l (K.OW.st [K.iv ((queueT qa kind val).2.1), .int .u32 ((queueT qa kind val).2.2)] [K.iv ((queueT qa kind val).2.1), .int .u32 ((queueT qa kind val).2.2)] rfl rfl rfl (by kernel_rfl) f_68 rfl (K.one_cells (by rfl)) rfl rfl ?_)
   intro w_70 e_71 hs_72 b_73
   have c_74 := c_63.own e_71 (by omega)
   have z_75 := c_74.size
   have zz_76 := e_71.size
   have f_77 := f_66.chg e_71 (f_66.ne f_68 (by decide))
   have f_78 := f_67.chg e_71 (f_67.ne f_68 (by decide))
   have f_79 := b_62.chg e_71 (b_62.ne f_68 (by decide))
   have f_80 := f_69.chg e_71 (fun k hk hy => f_69.ne_ty f_68 (by decide) k hk hy)
   refine K.z (K.t (K.r ?_))
   refine K.blk_ret ?_
   refine K.u ?_
   refine ⟨.inr rfl, rfl, (.tuple #[.agg #[.slice m_44 ((queueT qa kind val).1.length) c_45, .slice s sa.length cs, .slice m ma.length cm], .agg #[K.iv ((queueT qa kind val).2.1), .int .u32 ((queueT qa kind val).2.2)]]), K.resAt (rs := [.cell 4 30, .cell 5 49]) [.agg #[.slice m_44 ((queueT qa kind val).1.length) c_45, .slice s sa.length cs, .slice m ma.length cm], .agg #[K.iv ((queueT qa kind val).2.1), .int .u32 ((queueT qa kind val).2.2)]] rfl ⟨⟨_, rfl, K.lvN [.slice m_44 ((queueT qa kind val).1.length) c_45, .slice s sa.length cs, .slice m ma.length cm] (by kernel_rfl) (by kernel_rfl) (K.cells (K.cl (f_79.cell rfl) (K.cl (f_79.cell rfl) (K.cl (f_79.cell rfl) K.cl0))))⟩, ⟨_, rfl, K.lvN [K.iv ((queueT qa kind val).2.1), .int .u32 ((queueT qa kind val).2.2)] (by kernel_rfl) (by kernel_rfl) (K.cells (K.cl (b_73.cell rfl) (K.cl (b_73.cell rfl) K.cl0)))⟩, trivial⟩, ?_⟩
   refine ⟨c_74, ?_⟩
   have hA : (applyT ⟨qa, sa, ma⟩ kind key val) = (⟨(queueT qa kind val).1, sa, ma⟩, (queueT qa kind val).2) := (by unfold applyT; rw [if_pos (by omega)])
   rw [hA]
   exact .inl ⟨_, _, rfl, f_80, rfl, rfl⟩
  ·
   have c_81 := c_37.no ch_50
   have z_82 := c_81.size
   have zz_83 := ch_50.size
   have f_84 := f_40.no ch_50
   have f_85 := f_41.no ch_50
   have f_86 := f_42.no ch_50
   have f_87 := b_36.no ch_50
   refine K.q [.agg #[.slice q qa.length cq, .slice s sa.length cs, .slice m ma.length cm], .agg #[K.iv ((queueT qa kind val).2.1), .int .u32 ((queueT qa kind val).2.2)]] ?_
   refine K.l (K.OW.st [.slice q qa.length cq, .slice s sa.length cs, .slice m ma.length cm] [.slice q qa.length cq, .slice s sa.length cs, .slice m ma.length cm] rfl rfl rfl (by kernel_rfl) f_86 rfl (K.one_cells (by rfl)) rfl rfl ?_)
   intro w_88 e_89 hs_90 b_91
   have c_92 := c_81.own e_89 (by omega)
   have z_93 := c_92.size
   have zz_94 := e_89.size
   have f_95 := f_84.chg e_89 (by unfold K.Is; omega)
   have f_96 := f_85.chg e_89 (f_85.ne f_86 (by decide))
   have f_97 := f_87.chg e_89 (f_87.ne f_86 (by decide))
   refine K.l (K.OW.st [K.iv ((queueT qa kind val).2.1), .int .u32 ((queueT qa kind val).2.2)] [K.iv ((queueT qa kind val).2.1), .int .u32 ((queueT qa kind val).2.2)] rfl rfl rfl (by kernel_rfl) f_97 rfl (K.one_cells (by rfl)) rfl rfl ?_)
   intro w_98 e_99 hs_100 b_101
   have c_102 := c_92.own e_99 (by omega)
   have z_103 := c_102.size
   have zz_104 := e_99.size
   have f_105 := f_95.chg e_99 (f_95.ne f_97 (by decide))
   have f_106 := f_96.chg e_99 (f_96.ne f_97 (by decide))
   have f_107 := b_91.chg e_99 (b_91.ne f_97 (by decide))
   refine K.z (K.t (K.r ?_))
   refine K.blk_ret ?_
   refine K.u ?_
   refine ⟨.inr rfl, rfl, (.tuple #[.agg #[.slice q qa.length cq, .slice s sa.length cs, .slice m ma.length cm], .agg #[K.iv ((queueT qa kind val).2.1), .int .u32 ((queueT qa kind val).2.2)]]), K.resAt (rs := [.cell 4 30, .cell 5 49]) [.agg #[.slice q qa.length cq, .slice s sa.length cs, .slice m ma.length cm], .agg #[K.iv ((queueT qa kind val).2.1), .int .u32 ((queueT qa kind val).2.2)]] rfl ⟨⟨_, rfl, K.lvN [.slice q qa.length cq, .slice s sa.length cs, .slice m ma.length cm] (by kernel_rfl) (by kernel_rfl) (K.cells (K.cl (f_107.cell rfl) (K.cl (f_107.cell rfl) (K.cl (f_107.cell rfl) K.cl0))))⟩, ⟨_, rfl, K.lvN [K.iv ((queueT qa kind val).2.1), .int .u32 ((queueT qa kind val).2.2)] (by kernel_rfl) (by kernel_rfl) (K.cells (K.cl (b_101.cell rfl) (K.cl (b_101.cell rfl) K.cl0)))⟩, trivial⟩, ?_⟩
   refine ⟨c_102, ?_⟩
   first | (have hA : (applyT ⟨qa, sa, ma⟩ kind key val) = (⟨(queueT qa kind val).1, sa, ma⟩, (queueT qa kind val).2) := (by unfold applyT; rw [if_pos (by omega)]); rw [hA]; exact .inr (.inr (.inr ⟨rfl, by rw [hs_49]⟩))) | (have hA : (applyT ⟨qa, sa, ma⟩ kind key val) = (⟨qa, (setT sa kind key).1, ma⟩, (setT sa kind key).2, 0) := (by unfold applyT; rw [if_neg (by omega), if_pos (by omega)]); rw [hA]; exact .inr (.inr (.inr ⟨rfl, by rw [hs_49]⟩))) | (have hA : (applyT ⟨qa, sa, ma⟩ kind key val) = (⟨qa, sa, (pairsT ma kind key val).1⟩, (pairsT ma kind key val).2) := (by unfold applyT; rw [if_neg (by omega), if_neg (by omega), if_pos (by omega)]); rw [hA]; exact .inr (.inr (.inr ⟨rfl, by rw [hs_49]⟩)))
 ·
  refine K.xe (kind : Int) (1 : Int) h_43 ?_
  refine K.q [.bool false] (K.z (K.t (K.f ?_)))
  refine K.g ?_
  by_cases h_108 : (kind : Int) = (2 : Int)
  ·
   refine K.ye (kind : Int) (2 : Int) h_108 ?_
   refine K.q [.bool true] (K.z (K.t (K.h (K.s ?_))))
   refine K.g ?_
   refine K.a (K.QR.ldN [.slice q qa.length cq, .slice s sa.length cs, .slice m ma.length cm] rfl rfl (by kernel_rfl) (by kernel_rfl) (K.cells (K.cl (f_40.cell rfl) (K.cl (f_40.cell rfl) (K.cl (f_40.cell rfl) K.cl0))))) ?_
   refine K.a (K.QR.ldN [K.iv kind, .int .u32 key, .int .u32 val] rfl rfl (by kernel_rfl) (by kernel_rfl) (K.cells (K.cl (f_41.cell rfl) (K.cl (f_41.cell rfl) (K.cl (f_41.cell rfl) K.cl0))))) ?_
   refine K.l (K.OW.call rfl [.agg #[.slice q qa.length cq, .slice s sa.length cs, .slice m ma.length cm], .agg #[K.iv kind, .int .u32 key, .int .u32 val]] rfl rfl (by kernel_rfl) (queue_ok _ _ _ _ _ _ _ _ qa (queueT qa kind val).1 kind key val (queueT qa kind val).2.1 (queueT qa kind val).2.2 _ (by omega) (x1.no c_37) rfl) ?_)
   rintro _ w_111 (⟨m_109, c_110, rfl, ch_112, hx_113⟩ | ⟨hs_114, rfl, ch_115⟩)
   ·
    have c_116 := c_37.no ch_112
    have z_117 := c_116.size
    have zz_118 := ch_112.size
    have f_119 := f_40.no ch_112
    have f_120 := f_41.no ch_112
    have f_121 := f_42.no ch_112
    have f_122 := b_36.no ch_112
    have o_123 := K.Own.mono (base' := w0.heap.size) hx_113 (by omega)
    refine K.q [.agg #[.slice m_109 ((queueT qa kind val).1.length) c_110, .slice s sa.length cs, .slice m ma.length cm], .agg #[K.iv ((queueT qa kind val).2.1), .int .u32 ((queueT qa kind val).2.2)]] ?_
    refine K.l (K.OW.st [.slice m_109 ((queueT qa kind val).1.length) c_110, .slice s sa.length cs, .slice m ma.length cm] [.slice m_109 ((queueT qa kind val).1.length) c_110, .slice s sa.length cs, .slice m ma.length cm] rfl rfl rfl (by kernel_rfl) f_121 rfl (K.one_cells (by rfl)) rfl rfl ?_)
    intro w_124 e_125 hs_126 b_127
    have c_128 := c_116.own e_125 (by omega)
    have z_129 := c_128.size
    have zz_130 := e_125.size
    have f_131 := f_119.chg e_125 (by unfold K.Is; omega)
    have f_132 := f_120.chg e_125 (f_120.ne f_121 (by decide))
    have f_133 := f_122.chg e_125 (f_122.ne f_121 (by decide))
    have f_134 := o_123.chg e_125 (fun k hk hy => o_123.ne_ty f_121 (by decide) k hk hy)
    refine K.l (K.OW.st [K.iv ((queueT qa kind val).2.1), .int .u32 ((queueT qa kind val).2.2)] [K.iv ((queueT qa kind val).2.1), .int .u32 ((queueT qa kind val).2.2)] rfl rfl rfl (by kernel_rfl) f_133 rfl (K.one_cells (by rfl)) rfl rfl ?_)
    intro w_135 e_136 hs_137 b_138
    have c_139 := c_128.own e_136 (by omega)
    have z_140 := c_139.size
    have zz_141 := e_136.size
    have f_142 := f_131.chg e_136 (f_131.ne f_133 (by decide))
    have f_143 := f_132.chg e_136 (f_132.ne f_133 (by decide))
    have f_144 := b_127.chg e_136 (b_127.ne f_133 (by decide))
    have f_145 := f_134.chg e_136 (fun k hk hy => f_134.ne_ty f_133 (by decide) k hk hy)
    refine K.z (K.t (K.r ?_))
    refine K.blk_ret ?_
    refine K.u ?_
    refine ⟨.inr rfl, rfl, (.tuple #[.agg #[.slice m_109 ((queueT qa kind val).1.length) c_110, .slice s sa.length cs, .slice m ma.length cm], .agg #[K.iv ((queueT qa kind val).2.1), .int .u32 ((queueT qa kind val).2.2)]]), K.resAt (rs := [.cell 4 30, .cell 5 49]) [.agg #[.slice m_109 ((queueT qa kind val).1.length) c_110, .slice s sa.length cs, .slice m ma.length cm], .agg #[K.iv ((queueT qa kind val).2.1), .int .u32 ((queueT qa kind val).2.2)]] rfl ⟨⟨_, rfl, K.lvN [.slice m_109 ((queueT qa kind val).1.length) c_110, .slice s sa.length cs, .slice m ma.length cm] (by kernel_rfl) (by kernel_rfl) (K.cells (K.cl (f_144.cell rfl) (K.cl (f_144.cell rfl) (K.cl (f_144.cell rfl) K.cl0))))⟩, ⟨_, rfl, K.lvN [K.iv ((queueT qa kind val).2.1), .int .u32 ((queueT qa kind val).2.2)] (by kernel_rfl) (by kernel_rfl) (K.cells (K.cl (b_138.cell rfl) (K.cl (b_138.cell rfl) K.cl0)))⟩, trivial⟩, ?_⟩
    refine ⟨c_139, ?_⟩
    have hA : (applyT ⟨qa, sa, ma⟩ kind key val) = (⟨(queueT qa kind val).1, sa, ma⟩, (queueT qa kind val).2) := (by unfold applyT; rw [if_pos (by omega)])
    rw [hA]
    exact .inl ⟨_, _, rfl, f_145, rfl, rfl⟩
   ·
    have c_146 := c_37.no ch_115
    have z_147 := c_146.size
    have zz_148 := ch_115.size
    have f_149 := f_40.no ch_115
    have f_150 := f_41.no ch_115
    have f_151 := f_42.no ch_115
    have f_152 := b_36.no ch_115
    refine K.q [.agg #[.slice q qa.length cq, .slice s sa.length cs, .slice m ma.length cm], .agg #[K.iv ((queueT qa kind val).2.1), .int .u32 ((queueT qa kind val).2.2)]] ?_
    refine K.l (K.OW.st [.slice q qa.length cq, .slice s sa.length cs, .slice m ma.length cm] [.slice q qa.length cq, .slice s sa.length cs, .slice m ma.length cm] rfl rfl rfl (by kernel_rfl) f_151 rfl (K.one_cells (by rfl)) rfl rfl ?_)
    intro w_153 e_154 hs_155 b_156
    have c_157 := c_146.own e_154 (by omega)
    have z_158 := c_157.size
    have zz_159 := e_154.size
    have f_160 := f_149.chg e_154 (by unfold K.Is; omega)
    have f_161 := f_150.chg e_154 (f_150.ne f_151 (by decide))
    have f_162 := f_152.chg e_154 (f_152.ne f_151 (by decide))
    refine K.l (K.OW.st [K.iv ((queueT qa kind val).2.1), .int .u32 ((queueT qa kind val).2.2)] [K.iv ((queueT qa kind val).2.1), .int .u32 ((queueT qa kind val).2.2)] rfl rfl rfl (by kernel_rfl) f_162 rfl (K.one_cells (by rfl)) rfl rfl ?_)
    intro w_163 e_164 hs_165 b_166
    have c_167 := c_157.own e_164 (by omega)
    have z_168 := c_167.size
    have zz_169 := e_164.size
    have f_170 := f_160.chg e_164 (f_160.ne f_162 (by decide))
    have f_171 := f_161.chg e_164 (f_161.ne f_162 (by decide))
    have f_172 := b_156.chg e_164 (b_156.ne f_162 (by decide))
    refine K.z (K.t (K.r ?_))
    refine K.blk_ret ?_
    refine K.u ?_
    refine ⟨.inr rfl, rfl, (.tuple #[.agg #[.slice q qa.length cq, .slice s sa.length cs, .slice m ma.length cm], .agg #[K.iv ((queueT qa kind val).2.1), .int .u32 ((queueT qa kind val).2.2)]]), K.resAt (rs := [.cell 4 30, .cell 5 49]) [.agg #[.slice q qa.length cq, .slice s sa.length cs, .slice m ma.length cm], .agg #[K.iv ((queueT qa kind val).2.1), .int .u32 ((queueT qa kind val).2.2)]] rfl ⟨⟨_, rfl, K.lvN [.slice q qa.length cq, .slice s sa.length cs, .slice m ma.length cm] (by kernel_rfl) (by kernel_rfl) (K.cells (K.cl (f_172.cell rfl) (K.cl (f_172.cell rfl) (K.cl (f_172.cell rfl) K.cl0))))⟩, ⟨_, rfl, K.lvN [K.iv ((queueT qa kind val).2.1), .int .u32 ((queueT qa kind val).2.2)] (by kernel_rfl) (by kernel_rfl) (K.cells (K.cl (b_166.cell rfl) (K.cl (b_166.cell rfl) K.cl0)))⟩, trivial⟩, ?_⟩
    refine ⟨c_167, ?_⟩
    first | (have hA : (applyT ⟨qa, sa, ma⟩ kind key val) = (⟨(queueT qa kind val).1, sa, ma⟩, (queueT qa kind val).2) := (by unfold applyT; rw [if_pos (by omega)]); rw [hA]; exact .inr (.inr (.inr ⟨rfl, by rw [hs_114]⟩))) | (have hA : (applyT ⟨qa, sa, ma⟩ kind key val) = (⟨qa, (setT sa kind key).1, ma⟩, (setT sa kind key).2, 0) := (by unfold applyT; rw [if_neg (by omega), if_pos (by omega)]); rw [hA]; exact .inr (.inr (.inr ⟨rfl, by rw [hs_114]⟩))) | (have hA : (applyT ⟨qa, sa, ma⟩ kind key val) = (⟨qa, sa, (pairsT ma kind key val).1⟩, (pairsT ma kind key val).2) := (by unfold applyT; rw [if_neg (by omega), if_neg (by omega), if_pos (by omega)]); rw [hA]; exact .inr (.inr (.inr ⟨rfl, by rw [hs_114]⟩)))
  ·
   refine K.xe (kind : Int) (2 : Int) h_108 ?_
   refine K.q [.bool false] (K.z (K.t (K.f (K.s (K.s ?_)))))
   refine K.g ?_
   by_cases h_173 : (kind : Int) = (3 : Int)
   ·
    refine K.ye (kind : Int) (3 : Int) h_173 ?_
    refine K.q [.bool true] (K.z (K.t (K.h (K.k (K.t (K.h (K.s ?_)))))))
    refine K.g ?_
    refine K.a (K.QR.ldN [.slice q qa.length cq, .slice s sa.length cs, .slice m ma.length cm] rfl rfl (by kernel_rfl) (by kernel_rfl) (K.cells (K.cl (f_40.cell rfl) (K.cl (f_40.cell rfl) (K.cl (f_40.cell rfl) K.cl0))))) ?_
    refine K.a (K.QR.ldN [K.iv kind, .int .u32 key, .int .u32 val] rfl rfl (by kernel_rfl) (by kernel_rfl) (K.cells (K.cl (f_41.cell rfl) (K.cl (f_41.cell rfl) (K.cl (f_41.cell rfl) K.cl0))))) ?_
    refine K.l (K.OW.call rfl [.agg #[.slice q qa.length cq, .slice s sa.length cs, .slice m ma.length cm], .agg #[K.iv kind, .int .u32 key, .int .u32 val]] rfl rfl (by kernel_rfl) (set_ok _ _ _ _ _ _ _ _ sa (setT sa kind key).1 kind key val (setT sa kind key).2 _ (by omega) (by assumption) (x2.no c_37) rfl) ?_)
    rintro _ w_176 (⟨m_174, c_175, rfl, ch_177, hx_178⟩ | ⟨hs_179, rfl, ch_180⟩)
    ·
     have c_181 := c_37.no ch_177
     have z_182 := c_181.size
     have zz_183 := ch_177.size
     have f_184 := f_40.no ch_177
     have f_185 := f_41.no ch_177
     have f_186 := f_42.no ch_177
     have f_187 := b_36.no ch_177
     have o_188 := K.Own.mono (base' := w0.heap.size) hx_178 (by omega)
     refine K.q [.agg #[.slice q qa.length cq, .slice m_174 ((setT sa kind key).1.length) c_175, .slice m ma.length cm], .agg #[K.iv ((setT sa kind key).2), .int .u32 0]] ?_
     refine K.l (K.OW.st [.slice q qa.length cq, .slice m_174 ((setT sa kind key).1.length) c_175, .slice m ma.length cm] [.slice q qa.length cq, .slice m_174 ((setT sa kind key).1.length) c_175, .slice m ma.length cm] rfl rfl rfl (by kernel_rfl) f_186 rfl (K.one_cells (by rfl)) rfl rfl ?_)
     intro w_189 e_190 hs_191 b_192
     have c_193 := c_181.own e_190 (by omega)
     have z_194 := c_193.size
     have zz_195 := e_190.size
     have f_196 := f_184.chg e_190 (by unfold K.Is; omega)
     have f_197 := f_185.chg e_190 (f_185.ne f_186 (by decide))
     have f_198 := f_187.chg e_190 (f_187.ne f_186 (by decide))
     have f_199 := o_188.chg e_190 (fun k hk hy => o_188.ne_ty f_186 (by decide) k hk hy)
     refine K.l (K.OW.st [K.iv ((setT sa kind key).2), .int .u32 0] [K.iv ((setT sa kind key).2), .int .u32 0] rfl rfl rfl (by kernel_rfl) f_198 rfl (K.one_cells (by rfl)) rfl rfl ?_)
     intro w_200 e_201 hs_202 b_203
     have c_204 := c_193.own e_201 (by omega)
     have z_205 := c_204.size
     have zz_206 := e_201.size
     have f_207 := f_196.chg e_201 (f_196.ne f_198 (by decide))
     have f_208 := f_197.chg e_201 (f_197.ne f_198 (by decide))
     have f_209 := b_192.chg e_201 (b_192.ne f_198 (by decide))
     have f_210 := f_199.chg e_201 (fun k hk hy => f_199.ne_ty f_198 (by decide) k hk hy)
     refine K.z (K.t (K.r ?_))
     refine K.blk_ret ?_
     refine K.u ?_
     refine ⟨.inr rfl, rfl, (.tuple #[.agg #[.slice q qa.length cq, .slice m_174 ((setT sa kind key).1.length) c_175, .slice m ma.length cm], .agg #[K.iv ((setT sa kind key).2), .int .u32 0]]), K.resAt (rs := [.cell 4 30, .cell 5 49]) [.agg #[.slice q qa.length cq, .slice m_174 ((setT sa kind key).1.length) c_175, .slice m ma.length cm], .agg #[K.iv ((setT sa kind key).2), .int .u32 0]] rfl ⟨⟨_, rfl, K.lvN [.slice q qa.length cq, .slice m_174 ((setT sa kind key).1.length) c_175, .slice m ma.length cm] (by kernel_rfl) (by kernel_rfl) (K.cells (K.cl (f_209.cell rfl) (K.cl (f_209.cell rfl) (K.cl (f_209.cell rfl) K.cl0))))⟩, ⟨_, rfl, K.lvN [K.iv ((setT sa kind key).2), .int .u32 0] (by kernel_rfl) (by kernel_rfl) (K.cells (K.cl (b_203.cell rfl) (K.cl (b_203.cell rfl) K.cl0)))⟩, trivial⟩, ?_⟩
     refine ⟨c_204, ?_⟩
     have hA : (applyT ⟨qa, sa, ma⟩ kind key val) = (⟨qa, (setT sa kind key).1, ma⟩, (setT sa kind key).2, 0) := (by unfold applyT; rw [if_neg (by omega), if_pos (by omega)])
     rw [hA]
     exact .inr (.inl ⟨_, _, rfl, f_210, rfl, rfl⟩)
    ·
     have c_211 := c_37.no ch_180
     have z_212 := c_211.size
     have zz_213 := ch_180.size
     have f_214 := f_40.no ch_180
     have f_215 := f_41.no ch_180
     have f_216 := f_42.no ch_180
     have f_217 := b_36.no ch_180
     refine K.q [.agg #[.slice q qa.length cq, .slice s sa.length cs, .slice m ma.length cm], .agg #[K.iv ((setT sa kind key).2), .int .u32 0]] ?_
     refine K.l (K.OW.st [.slice q qa.length cq, .slice s sa.length cs, .slice m ma.length cm] [.slice q qa.length cq, .slice s sa.length cs, .slice m ma.length cm] rfl rfl rfl (by kernel_rfl) f_216 rfl (K.one_cells (by rfl)) rfl rfl ?_)
     intro w_218 e_219 hs_220 b_221
     have c_222 := c_211.own e_219 (by omega)
     have z_223 := c_222.size
     have zz_224 := e_219.size
     have f_225 := f_214.chg e_219 (by unfold K.Is; omega)
     have f_226 := f_215.chg e_219 (f_215.ne f_216 (by decide))
     have f_227 := f_217.chg e_219 (f_217.ne f_216 (by decide))
     refine K.l (K.OW.st [K.iv ((setT sa kind key).2), .int .u32 0] [K.iv ((setT sa kind key).2), .int .u32 0] rfl rfl rfl (by kernel_rfl) f_227 rfl (K.one_cells (by rfl)) rfl rfl ?_)
     intro w_228 e_229 hs_230 b_231
     have c_232 := c_222.own e_229 (by omega)
     have z_233 := c_232.size
     have zz_234 := e_229.size
     have f_235 := f_225.chg e_229 (f_225.ne f_227 (by decide))
     have f_236 := f_226.chg e_229 (f_226.ne f_227 (by decide))
     have f_237 := b_221.chg e_229 (b_221.ne f_227 (by decide))
     refine K.z (K.t (K.r ?_))
     refine K.blk_ret ?_
     refine K.u ?_
     refine ⟨.inr rfl, rfl, (.tuple #[.agg #[.slice q qa.length cq, .slice s sa.length cs, .slice m ma.length cm], .agg #[K.iv ((setT sa kind key).2), .int .u32 0]]), K.resAt (rs := [.cell 4 30, .cell 5 49]) [.agg #[.slice q qa.length cq, .slice s sa.length cs, .slice m ma.length cm], .agg #[K.iv ((setT sa kind key).2), .int .u32 0]] rfl ⟨⟨_, rfl, K.lvN [.slice q qa.length cq, .slice s sa.length cs, .slice m ma.length cm] (by kernel_rfl) (by kernel_rfl) (K.cells (K.cl (f_237.cell rfl) (K.cl (f_237.cell rfl) (K.cl (f_237.cell rfl) K.cl0))))⟩, ⟨_, rfl, K.lvN [K.iv ((setT sa kind key).2), .int .u32 0] (by kernel_rfl) (by kernel_rfl) (K.cells (K.cl (b_231.cell rfl) (K.cl (b_231.cell rfl) K.cl0)))⟩, trivial⟩, ?_⟩
     refine ⟨c_232, ?_⟩
     first | (have hA : (applyT ⟨qa, sa, ma⟩ kind key val) = (⟨(queueT qa kind val).1, sa, ma⟩, (queueT qa kind val).2) := (by unfold applyT; rw [if_pos (by omega)]); rw [hA]; exact .inr (.inr (.inr ⟨rfl, by rw [hs_179]⟩))) | (have hA : (applyT ⟨qa, sa, ma⟩ kind key val) = (⟨qa, (setT sa kind key).1, ma⟩, (setT sa kind key).2, 0) := (by unfold applyT; rw [if_neg (by omega), if_pos (by omega)]); rw [hA]; exact .inr (.inr (.inr ⟨rfl, by rw [hs_179]⟩))) | (have hA : (applyT ⟨qa, sa, ma⟩ kind key val) = (⟨qa, sa, (pairsT ma kind key val).1⟩, (pairsT ma kind key val).2) := (by unfold applyT; rw [if_neg (by omega), if_neg (by omega), if_pos (by omega)]); rw [hA]; exact .inr (.inr (.inr ⟨rfl, by rw [hs_179]⟩)))
   ·
    refine K.xe (kind : Int) (3 : Int) h_173 ?_
    refine K.q [.bool false] (K.z (K.t (K.f (K.s ?_))))
    refine K.g ?_
    by_cases h_238 : (kind : Int) = (4 : Int)
    ·
     refine K.ye (kind : Int) (4 : Int) h_238 ?_
     refine K.q [.bool true] (K.z (K.t (K.h (K.k (K.t (K.h (K.s ?_)))))))
     refine K.g ?_
     refine K.a (K.QR.ldN [.slice q qa.length cq, .slice s sa.length cs, .slice m ma.length cm] rfl rfl (by kernel_rfl) (by kernel_rfl) (K.cells (K.cl (f_40.cell rfl) (K.cl (f_40.cell rfl) (K.cl (f_40.cell rfl) K.cl0))))) ?_
     refine K.a (K.QR.ldN [K.iv kind, .int .u32 key, .int .u32 val] rfl rfl (by kernel_rfl) (by kernel_rfl) (K.cells (K.cl (f_41.cell rfl) (K.cl (f_41.cell rfl) (K.cl (f_41.cell rfl) K.cl0))))) ?_
     refine K.l (K.OW.call rfl [.agg #[.slice q qa.length cq, .slice s sa.length cs, .slice m ma.length cm], .agg #[K.iv kind, .int .u32 key, .int .u32 val]] rfl rfl (by kernel_rfl) (set_ok _ _ _ _ _ _ _ _ sa (setT sa kind key).1 kind key val (setT sa kind key).2 _ (by omega) (by assumption) (x2.no c_37) rfl) ?_)
     rintro _ w_241 (⟨m_239, c_240, rfl, ch_242, hx_243⟩ | ⟨hs_244, rfl, ch_245⟩)
     ·
      have c_246 := c_37.no ch_242
      have z_247 := c_246.size
      have zz_248 := ch_242.size
      have f_249 := f_40.no ch_242
      have f_250 := f_41.no ch_242
      have f_251 := f_42.no ch_242
      have f_252 := b_36.no ch_242
      have o_253 := K.Own.mono (base' := w0.heap.size) hx_243 (by omega)
      refine K.q [.agg #[.slice q qa.length cq, .slice m_239 ((setT sa kind key).1.length) c_240, .slice m ma.length cm], .agg #[K.iv ((setT sa kind key).2), .int .u32 0]] ?_
      refine K.l (K.OW.st [.slice q qa.length cq, .slice m_239 ((setT sa kind key).1.length) c_240, .slice m ma.length cm] [.slice q qa.length cq, .slice m_239 ((setT sa kind key).1.length) c_240, .slice m ma.length cm] rfl rfl rfl (by kernel_rfl) f_251 rfl (K.one_cells (by rfl)) rfl rfl ?_)
      intro w_254 e_255 hs_256 b_257
      have c_258 := c_246.own e_255 (by omega)
      have z_259 := c_258.size
      have zz_260 := e_255.size
      have f_261 := f_249.chg e_255 (by unfold K.Is; omega)
      have f_262 := f_250.chg e_255 (f_250.ne f_251 (by decide))
      have f_263 := f_252.chg e_255 (f_252.ne f_251 (by decide))
      have f_264 := o_253.chg e_255 (fun k hk hy => o_253.ne_ty f_251 (by decide) k hk hy)
      refine K.l (K.OW.st [K.iv ((setT sa kind key).2), .int .u32 0] [K.iv ((setT sa kind key).2), .int .u32 0] rfl rfl rfl (by kernel_rfl) f_263 rfl (K.one_cells (by rfl)) rfl rfl ?_)
      intro w_265 e_266 hs_267 b_268
      have c_269 := c_258.own e_266 (by omega)
      have z_270 := c_269.size
      have zz_271 := e_266.size
      have f_272 := f_261.chg e_266 (f_261.ne f_263 (by decide))
      have f_273 := f_262.chg e_266 (f_262.ne f_263 (by decide))
      have f_274 := b_257.chg e_266 (b_257.ne f_263 (by decide))
      have f_275 := f_264.chg e_266 (fun k hk hy => f_264.ne_ty f_263 (by decide) k hk hy)
      refine K.z (K.t (K.r ?_))
      refine K.blk_ret ?_
      refine K.u ?_
      refine ⟨.inr rfl, rfl, (.tuple #[.agg #[.slice q qa.length cq, .slice m_239 ((setT sa kind key).1.length) c_240, .slice m ma.length cm], .agg #[K.iv ((setT sa kind key).2), .int .u32 0]]), K.resAt (rs := [.cell 4 30, .cell 5 49]) [.agg #[.slice q qa.length cq, .slice m_239 ((setT sa kind key).1.length) c_240, .slice m ma.length cm], .agg #[K.iv ((setT sa kind key).2), .int .u32 0]] rfl ⟨⟨_, rfl, K.lvN [.slice q qa.length cq, .slice m_239 ((setT sa kind key).1.length) c_240, .slice m ma.length cm] (by kernel_rfl) (by kernel_rfl) (K.cells (K.cl (f_274.cell rfl) (K.cl (f_274.cell rfl) (K.cl (f_274.cell rfl) K.cl0))))⟩, ⟨_, rfl, K.lvN [K.iv ((setT sa kind key).2), .int .u32 0] (by kernel_rfl) (by kernel_rfl) (K.cells (K.cl (b_268.cell rfl) (K.cl (b_268.cell rfl) K.cl0)))⟩, trivial⟩, ?_⟩
      refine ⟨c_269, ?_⟩
      have hA : (applyT ⟨qa, sa, ma⟩ kind key val) = (⟨qa, (setT sa kind key).1, ma⟩, (setT sa kind key).2, 0) := (by unfold applyT; rw [if_neg (by omega), if_pos (by omega)])
      rw [hA]
      exact .inr (.inl ⟨_, _, rfl, f_275, rfl, rfl⟩)
     ·
      have c_276 := c_37.no ch_245
      have z_277 := c_276.size
      have zz_278 := ch_245.size
      have f_279 := f_40.no ch_245
      have f_280 := f_41.no ch_245
      have f_281 := f_42.no ch_245
      have f_282 := b_36.no ch_245
      refine K.q [.agg #[.slice q qa.length cq, .slice s sa.length cs, .slice m ma.length cm], .agg #[K.iv ((setT sa kind key).2), .int .u32 0]] ?_
      refine K.l (K.OW.st [.slice q qa.length cq, .slice s sa.length cs, .slice m ma.length cm] [.slice q qa.length cq, .slice s sa.length cs, .slice m ma.length cm] rfl rfl rfl (by kernel_rfl) f_281 rfl (K.one_cells (by rfl)) rfl rfl ?_)
      intro w_283 e_284 hs_285 b_286
      have c_287 := c_276.own e_284 (by omega)
      have z_288 := c_287.size
      have zz_289 := e_284.size
      have f_290 := f_279.chg e_284 (by unfold K.Is; omega)
      have f_291 := f_280.chg e_284 (f_280.ne f_281 (by decide))
      have f_292 := f_282.chg e_284 (f_282.ne f_281 (by decide))
      refine K.l (K.OW.st [K.iv ((setT sa kind key).2), .int .u32 0] [K.iv ((setT sa kind key).2), .int .u32 0] rfl rfl rfl (by kernel_rfl) f_292 rfl (K.one_cells (by rfl)) rfl rfl ?_)
      intro w_293 e_294 hs_295 b_296
      have c_297 := c_287.own e_294 (by omega)
      have z_298 := c_297.size
      have zz_299 := e_294.size
      have f_300 := f_290.chg e_294 (f_290.ne f_292 (by decide))
      have f_301 := f_291.chg e_294 (f_291.ne f_292 (by decide))
      have f_302 := b_286.chg e_294 (b_286.ne f_292 (by decide))
      refine K.z (K.t (K.r ?_))
      refine K.blk_ret ?_
      refine K.u ?_
      refine ⟨.inr rfl, rfl, (.tuple #[.agg #[.slice q qa.length cq, .slice s sa.length cs, .slice m ma.length cm], .agg #[K.iv ((setT sa kind key).2), .int .u32 0]]), K.resAt (rs := [.cell 4 30, .cell 5 49]) [.agg #[.slice q qa.length cq, .slice s sa.length cs, .slice m ma.length cm], .agg #[K.iv ((setT sa kind key).2), .int .u32 0]] rfl ⟨⟨_, rfl, K.lvN [.slice q qa.length cq, .slice s sa.length cs, .slice m ma.length cm] (by kernel_rfl) (by kernel_rfl) (K.cells (K.cl (f_302.cell rfl) (K.cl (f_302.cell rfl) (K.cl (f_302.cell rfl) K.cl0))))⟩, ⟨_, rfl, K.lvN [K.iv ((setT sa kind key).2), .int .u32 0] (by kernel_rfl) (by kernel_rfl) (K.cells (K.cl (b_296.cell rfl) (K.cl (b_296.cell rfl) K.cl0)))⟩, trivial⟩, ?_⟩
      refine ⟨c_297, ?_⟩
      first | (have hA : (applyT ⟨qa, sa, ma⟩ kind key val) = (⟨(queueT qa kind val).1, sa, ma⟩, (queueT qa kind val).2) := (by unfold applyT; rw [if_pos (by omega)]); rw [hA]; exact .inr (.inr (.inr ⟨rfl, by rw [hs_244]⟩))) | (have hA : (applyT ⟨qa, sa, ma⟩ kind key val) = (⟨qa, (setT sa kind key).1, ma⟩, (setT sa kind key).2, 0) := (by unfold applyT; rw [if_neg (by omega), if_pos (by omega)]); rw [hA]; exact .inr (.inr (.inr ⟨rfl, by rw [hs_244]⟩))) | (have hA : (applyT ⟨qa, sa, ma⟩ kind key val) = (⟨qa, sa, (pairsT ma kind key val).1⟩, (pairsT ma kind key val).2) := (by unfold applyT; rw [if_neg (by omega), if_neg (by omega), if_pos (by omega)]); rw [hA]; exact .inr (.inr (.inr ⟨rfl, by rw [hs_244]⟩)))
    ·
     refine K.xe (kind : Int) (4 : Int) h_238 ?_
     refine K.q [.bool false] (K.z (K.t (K.f ?_)))
     refine K.g ?_
     by_cases h_303 : (kind : Int) = (5 : Int)
     ·
      refine K.ye (kind : Int) (5 : Int) h_303 ?_
      refine K.q [.bool true] (K.z (K.t (K.h (K.s ?_))))
      refine K.g ?_
      refine K.a (K.QR.ldN [.slice q qa.length cq, .slice s sa.length cs, .slice m ma.length cm] rfl rfl (by kernel_rfl) (by kernel_rfl) (K.cells (K.cl (f_40.cell rfl) (K.cl (f_40.cell rfl) (K.cl (f_40.cell rfl) K.cl0))))) ?_
      refine K.a (K.QR.ldN [K.iv kind, .int .u32 key, .int .u32 val] rfl rfl (by kernel_rfl) (by kernel_rfl) (K.cells (K.cl (f_41.cell rfl) (K.cl (f_41.cell rfl) (K.cl (f_41.cell rfl) K.cl0))))) ?_
      refine K.l (K.OW.call rfl [.agg #[.slice q qa.length cq, .slice s sa.length cs, .slice m ma.length cm], .agg #[K.iv kind, .int .u32 key, .int .u32 val]] rfl rfl (by kernel_rfl) (set_ok _ _ _ _ _ _ _ _ sa (setT sa kind key).1 kind key val (setT sa kind key).2 _ (by omega) (by assumption) (x2.no c_37) rfl) ?_)
      rintro _ w_306 (⟨m_304, c_305, rfl, ch_307, hx_308⟩ | ⟨hs_309, rfl, ch_310⟩)
      ·
       have c_311 := c_37.no ch_307
       have z_312 := c_311.size
       have zz_313 := ch_307.size
       have f_314 := f_40.no ch_307
       have f_315 := f_41.no ch_307
       have f_316 := f_42.no ch_307
       have f_317 := b_36.no ch_307
       have o_318 := K.Own.mono (base' := w0.heap.size) hx_308 (by omega)
       refine K.q [.agg #[.slice q qa.length cq, .slice m_304 ((setT sa kind key).1.length) c_305, .slice m ma.length cm], .agg #[K.iv ((setT sa kind key).2), .int .u32 0]] ?_
       refine K.l (K.OW.st [.slice q qa.length cq, .slice m_304 ((setT sa kind key).1.length) c_305, .slice m ma.length cm] [.slice q qa.length cq, .slice m_304 ((setT sa kind key).1.length) c_305, .slice m ma.length cm] rfl rfl rfl (by kernel_rfl) f_316 rfl (K.one_cells (by rfl)) rfl rfl ?_)
       intro w_319 e_320 hs_321 b_322
       have c_323 := c_311.own e_320 (by omega)
       have z_324 := c_323.size
       have zz_325 := e_320.size
       have f_326 := f_314.chg e_320 (by unfold K.Is; omega)
       have f_327 := f_315.chg e_320 (f_315.ne f_316 (by decide))
       have f_328 := f_317.chg e_320 (f_317.ne f_316 (by decide))
       have f_329 := o_318.chg e_320 (fun k hk hy => o_318.ne_ty f_316 (by decide) k hk hy)
       refine K.l (K.OW.st [K.iv ((setT sa kind key).2), .int .u32 0] [K.iv ((setT sa kind key).2), .int .u32 0] rfl rfl rfl (by kernel_rfl) f_328 rfl (K.one_cells (by rfl)) rfl rfl ?_)
       intro w_330 e_331 hs_332 b_333
       have c_334 := c_323.own e_331 (by omega)
       have z_335 := c_334.size
       have zz_336 := e_331.size
       have f_337 := f_326.chg e_331 (f_326.ne f_328 (by decide))
       have f_338 := f_327.chg e_331 (f_327.ne f_328 (by decide))
       have f_339 := b_322.chg e_331 (b_322.ne f_328 (by decide))
       have f_340 := f_329.chg e_331 (fun k hk hy => f_329.ne_ty f_328 (by decide) k hk hy)
       refine K.z (K.t (K.r ?_))
       refine K.blk_ret ?_
       refine K.u ?_
       refine ⟨.inr rfl, rfl, (.tuple #[.agg #[.slice q qa.length cq, .slice m_304 ((setT sa kind key).1.length) c_305, .slice m ma.length cm], .agg #[K.iv ((setT sa kind key).2), .int .u32 0]]), K.resAt (rs := [.cell 4 30, .cell 5 49]) [.agg #[.slice q qa.length cq, .slice m_304 ((setT sa kind key).1.length) c_305, .slice m ma.length cm], .agg #[K.iv ((setT sa kind key).2), .int .u32 0]] rfl ⟨⟨_, rfl, K.lvN [.slice q qa.length cq, .slice m_304 ((setT sa kind key).1.length) c_305, .slice m ma.length cm] (by kernel_rfl) (by kernel_rfl) (K.cells (K.cl (f_339.cell rfl) (K.cl (f_339.cell rfl) (K.cl (f_339.cell rfl) K.cl0))))⟩, ⟨_, rfl, K.lvN [K.iv ((setT sa kind key).2), .int .u32 0] (by kernel_rfl) (by kernel_rfl) (K.cells (K.cl (b_333.cell rfl) (K.cl (b_333.cell rfl) K.cl0)))⟩, trivial⟩, ?_⟩
       refine ⟨c_334, ?_⟩
       have hA : (applyT ⟨qa, sa, ma⟩ kind key val) = (⟨qa, (setT sa kind key).1, ma⟩, (setT sa kind key).2, 0) := (by unfold applyT; rw [if_neg (by omega), if_pos (by omega)])
       rw [hA]
       exact .inr (.inl ⟨_, _, rfl, f_340, rfl, rfl⟩)
      ·
       have c_341 := c_37.no ch_310
       have z_342 := c_341.size
       have zz_343 := ch_310.size
       have f_344 := f_40.no ch_310
       have f_345 := f_41.no ch_310
       have f_346 := f_42.no ch_310
       have f_347 := b_36.no ch_310
       refine K.q [.agg #[.slice q qa.length cq, .slice s sa.length cs, .slice m ma.length cm], .agg #[K.iv ((setT sa kind key).2), .int .u32 0]] ?_
       refine K.l (K.OW.st [.slice q qa.length cq, .slice s sa.length cs, .slice m ma.length cm] [.slice q qa.length cq, .slice s sa.length cs, .slice m ma.length cm] rfl rfl rfl (by kernel_rfl) f_346 rfl (K.one_cells (by rfl)) rfl rfl ?_)
       intro w_348 e_349 hs_350 b_351
       have c_352 := c_341.own e_349 (by omega)
       have z_353 := c_352.size
       have zz_354 := e_349.size
       have f_355 := f_344.chg e_349 (by unfold K.Is; omega)
       have f_356 := f_345.chg e_349 (f_345.ne f_346 (by decide))
       have f_357 := f_347.chg e_349 (f_347.ne f_346 (by decide))
       refine K.l (K.OW.st [K.iv ((setT sa kind key).2), .int .u32 0] [K.iv ((setT sa kind key).2), .int .u32 0] rfl rfl rfl (by kernel_rfl) f_357 rfl (K.one_cells (by rfl)) rfl rfl ?_)
       intro w_358 e_359 hs_360 b_361
       have c_362 := c_352.own e_359 (by omega)
       have z_363 := c_362.size
       have zz_364 := e_359.size
       have f_365 := f_355.chg e_359 (f_355.ne f_357 (by decide))
       have f_366 := f_356.chg e_359 (f_356.ne f_357 (by decide))
       have f_367 := b_351.chg e_359 (b_351.ne f_357 (by decide))
       refine K.z (K.t (K.r ?_))
       refine K.blk_ret ?_
       refine K.u ?_
       refine ⟨.inr rfl, rfl, (.tuple #[.agg #[.slice q qa.length cq, .slice s sa.length cs, .slice m ma.length cm], .agg #[K.iv ((setT sa kind key).2), .int .u32 0]]), K.resAt (rs := [.cell 4 30, .cell 5 49]) [.agg #[.slice q qa.length cq, .slice s sa.length cs, .slice m ma.length cm], .agg #[K.iv ((setT sa kind key).2), .int .u32 0]] rfl ⟨⟨_, rfl, K.lvN [.slice q qa.length cq, .slice s sa.length cs, .slice m ma.length cm] (by kernel_rfl) (by kernel_rfl) (K.cells (K.cl (f_367.cell rfl) (K.cl (f_367.cell rfl) (K.cl (f_367.cell rfl) K.cl0))))⟩, ⟨_, rfl, K.lvN [K.iv ((setT sa kind key).2), .int .u32 0] (by kernel_rfl) (by kernel_rfl) (K.cells (K.cl (b_361.cell rfl) (K.cl (b_361.cell rfl) K.cl0)))⟩, trivial⟩, ?_⟩
       refine ⟨c_362, ?_⟩
       first | (have hA : (applyT ⟨qa, sa, ma⟩ kind key val) = (⟨(queueT qa kind val).1, sa, ma⟩, (queueT qa kind val).2) := (by unfold applyT; rw [if_pos (by omega)]); rw [hA]; exact .inr (.inr (.inr ⟨rfl, by rw [hs_309]⟩))) | (have hA : (applyT ⟨qa, sa, ma⟩ kind key val) = (⟨qa, (setT sa kind key).1, ma⟩, (setT sa kind key).2, 0) := (by unfold applyT; rw [if_neg (by omega), if_pos (by omega)]); rw [hA]; exact .inr (.inr (.inr ⟨rfl, by rw [hs_309]⟩))) | (have hA : (applyT ⟨qa, sa, ma⟩ kind key val) = (⟨qa, sa, (pairsT ma kind key val).1⟩, (pairsT ma kind key val).2) := (by unfold applyT; rw [if_neg (by omega), if_neg (by omega), if_pos (by omega)]); rw [hA]; exact .inr (.inr (.inr ⟨rfl, by rw [hs_309]⟩)))
     ·
      refine K.xe (kind : Int) (5 : Int) h_303 ?_
      refine K.q [.bool false] (K.z (K.t (K.f (K.s (K.s ?_)))))
      refine K.g ?_
      by_cases h_368 : (kind : Int) = (6 : Int)
      ·
       refine K.ye (kind : Int) (6 : Int) h_368 ?_
       refine K.q [.bool true] (K.z (K.t (K.h (K.k (K.t (K.h (K.s ?_)))))))
       refine K.g ?_
       refine K.a (K.QR.ldN [.slice q qa.length cq, .slice s sa.length cs, .slice m ma.length cm] rfl rfl (by kernel_rfl) (by kernel_rfl) (K.cells (K.cl (f_40.cell rfl) (K.cl (f_40.cell rfl) (K.cl (f_40.cell rfl) K.cl0))))) ?_
       refine K.a (K.QR.ldN [K.iv kind, .int .u32 key, .int .u32 val] rfl rfl (by kernel_rfl) (by kernel_rfl) (K.cells (K.cl (f_41.cell rfl) (K.cl (f_41.cell rfl) (K.cl (f_41.cell rfl) K.cl0))))) ?_
       refine K.l (K.OW.call rfl [.agg #[.slice q qa.length cq, .slice s sa.length cs, .slice m ma.length cm], .agg #[K.iv kind, .int .u32 key, .int .u32 val]] rfl rfl (by kernel_rfl) (pairs_ok _ _ _ _ _ _ _ _ ma (pairsT ma kind key val).1 kind key val (pairsT ma kind key val).2.1 (pairsT ma kind key val).2.2 _ (by omega) (by omega) (by assumption) (x3.no c_37) rfl) ?_)
       rintro _ w_371 (⟨m_369, c_370, rfl, ch_372, hx_373⟩ | ⟨hs_374, rfl, ch_375⟩)
       ·
        have c_376 := c_37.no ch_372
        have z_377 := c_376.size
        have zz_378 := ch_372.size
        have f_379 := f_40.no ch_372
        have f_380 := f_41.no ch_372
        have f_381 := f_42.no ch_372
        have f_382 := b_36.no ch_372
        have o_383 := K.Own.mono (base' := w0.heap.size) hx_373 (by omega)
        refine K.q [.agg #[.slice q qa.length cq, .slice s sa.length cs, .slice m_369 ((pairsT ma kind key val).1.length) c_370], .agg #[K.iv ((pairsT ma kind key val).2.1), .int .u32 ((pairsT ma kind key val).2.2)]] ?_
        refine K.l (K.OW.st [.slice q qa.length cq, .slice s sa.length cs, .slice m_369 ((pairsT ma kind key val).1.length) c_370] [.slice q qa.length cq, .slice s sa.length cs, .slice m_369 ((pairsT ma kind key val).1.length) c_370] rfl rfl rfl (by kernel_rfl) f_381 rfl (K.one_cells (by rfl)) rfl rfl ?_)
        intro w_384 e_385 hs_386 b_387
        have c_388 := c_376.own e_385 (by omega)
        have z_389 := c_388.size
        have zz_390 := e_385.size
        have f_391 := f_379.chg e_385 (by unfold K.Is; omega)
        have f_392 := f_380.chg e_385 (f_380.ne f_381 (by decide))
        have f_393 := f_382.chg e_385 (f_382.ne f_381 (by decide))
        have f_394 := o_383.chg e_385 (fun k hk hy => o_383.ne_ty f_381 (by decide) k hk hy)
        refine K.l (K.OW.st [K.iv ((pairsT ma kind key val).2.1), .int .u32 ((pairsT ma kind key val).2.2)] [K.iv ((pairsT ma kind key val).2.1), .int .u32 ((pairsT ma kind key val).2.2)] rfl rfl rfl (by kernel_rfl) f_393 rfl (K.one_cells (by rfl)) rfl rfl ?_)
        intro w_395 e_396 hs_397 b_398
        have c_399 := c_388.own e_396 (by omega)
        have z_400 := c_399.size
        have zz_401 := e_396.size
        have f_402 := f_391.chg e_396 (f_391.ne f_393 (by decide))
        have f_403 := f_392.chg e_396 (f_392.ne f_393 (by decide))
        have f_404 := b_387.chg e_396 (b_387.ne f_393 (by decide))
        have f_405 := f_394.chg e_396 (fun k hk hy => f_394.ne_ty f_393 (by decide) k hk hy)
        refine K.z (K.t (K.r ?_))
        refine K.blk_ret ?_
        refine K.u ?_
        refine ⟨.inr rfl, rfl, (.tuple #[.agg #[.slice q qa.length cq, .slice s sa.length cs, .slice m_369 ((pairsT ma kind key val).1.length) c_370], .agg #[K.iv ((pairsT ma kind key val).2.1), .int .u32 ((pairsT ma kind key val).2.2)]]), K.resAt (rs := [.cell 4 30, .cell 5 49]) [.agg #[.slice q qa.length cq, .slice s sa.length cs, .slice m_369 ((pairsT ma kind key val).1.length) c_370], .agg #[K.iv ((pairsT ma kind key val).2.1), .int .u32 ((pairsT ma kind key val).2.2)]] rfl ⟨⟨_, rfl, K.lvN [.slice q qa.length cq, .slice s sa.length cs, .slice m_369 ((pairsT ma kind key val).1.length) c_370] (by kernel_rfl) (by kernel_rfl) (K.cells (K.cl (f_404.cell rfl) (K.cl (f_404.cell rfl) (K.cl (f_404.cell rfl) K.cl0))))⟩, ⟨_, rfl, K.lvN [K.iv ((pairsT ma kind key val).2.1), .int .u32 ((pairsT ma kind key val).2.2)] (by kernel_rfl) (by kernel_rfl) (K.cells (K.cl (b_398.cell rfl) (K.cl (b_398.cell rfl) K.cl0)))⟩, trivial⟩, ?_⟩
        refine ⟨c_399, ?_⟩
        have hA : (applyT ⟨qa, sa, ma⟩ kind key val) = (⟨qa, sa, (pairsT ma kind key val).1⟩, (pairsT ma kind key val).2) := (by unfold applyT; rw [if_neg (by omega), if_neg (by omega), if_pos (by omega)])
        rw [hA]
        exact .inr (.inr (.inl ⟨_, _, rfl, f_405, rfl, rfl⟩))
       ·
        have c_406 := c_37.no ch_375
        have z_407 := c_406.size
        have zz_408 := ch_375.size
        have f_409 := f_40.no ch_375
        have f_410 := f_41.no ch_375
        have f_411 := f_42.no ch_375
        have f_412 := b_36.no ch_375
        refine K.q [.agg #[.slice q qa.length cq, .slice s sa.length cs, .slice m ma.length cm], .agg #[K.iv ((pairsT ma kind key val).2.1), .int .u32 ((pairsT ma kind key val).2.2)]] ?_
        refine K.l (K.OW.st [.slice q qa.length cq, .slice s sa.length cs, .slice m ma.length cm] [.slice q qa.length cq, .slice s sa.length cs, .slice m ma.length cm] rfl rfl rfl (by kernel_rfl) f_411 rfl (K.one_cells (by rfl)) rfl rfl ?_)
        intro w_413 e_414 hs_415 b_416
        have c_417 := c_406.own e_414 (by omega)
        have z_418 := c_417.size
        have zz_419 := e_414.size
        have f_420 := f_409.chg e_414 (by unfold K.Is; omega)
        have f_421 := f_410.chg e_414 (f_410.ne f_411 (by decide))
        have f_422 := f_412.chg e_414 (f_412.ne f_411 (by decide))
        refine K.l (K.OW.st [K.iv ((pairsT ma kind key val).2.1), .int .u32 ((pairsT ma kind key val).2.2)] [K.iv ((pairsT ma kind key val).2.1), .int .u32 ((pairsT ma kind key val).2.2)] rfl rfl rfl (by kernel_rfl) f_422 rfl (K.one_cells (by rfl)) rfl rfl ?_)
        intro w_423 e_424 hs_425 b_426
        have c_427 := c_417.own e_424 (by omega)
        have z_428 := c_427.size
        have zz_429 := e_424.size
        have f_430 := f_420.chg e_424 (f_420.ne f_422 (by decide))
        have f_431 := f_421.chg e_424 (f_421.ne f_422 (by decide))
        have f_432 := b_416.chg e_424 (b_416.ne f_422 (by decide))
        refine K.z (K.t (K.r ?_))
        refine K.blk_ret ?_
        refine K.u ?_
        refine ⟨.inr rfl, rfl, (.tuple #[.agg #[.slice q qa.length cq, .slice s sa.length cs, .slice m ma.length cm], .agg #[K.iv ((pairsT ma kind key val).2.1), .int .u32 ((pairsT ma kind key val).2.2)]]), K.resAt (rs := [.cell 4 30, .cell 5 49]) [.agg #[.slice q qa.length cq, .slice s sa.length cs, .slice m ma.length cm], .agg #[K.iv ((pairsT ma kind key val).2.1), .int .u32 ((pairsT ma kind key val).2.2)]] rfl ⟨⟨_, rfl, K.lvN [.slice q qa.length cq, .slice s sa.length cs, .slice m ma.length cm] (by kernel_rfl) (by kernel_rfl) (K.cells (K.cl (f_432.cell rfl) (K.cl (f_432.cell rfl) (K.cl (f_432.cell rfl) K.cl0))))⟩, ⟨_, rfl, K.lvN [K.iv ((pairsT ma kind key val).2.1), .int .u32 ((pairsT ma kind key val).2.2)] (by kernel_rfl) (by kernel_rfl) (K.cells (K.cl (b_426.cell rfl) (K.cl (b_426.cell rfl) K.cl0)))⟩, trivial⟩, ?_⟩
        refine ⟨c_427, ?_⟩
        first | (have hA : (applyT ⟨qa, sa, ma⟩ kind key val) = (⟨(queueT qa kind val).1, sa, ma⟩, (queueT qa kind val).2) := (by unfold applyT; rw [if_pos (by omega)]); rw [hA]; exact .inr (.inr (.inr ⟨rfl, by rw [hs_374]⟩))) | (have hA : (applyT ⟨qa, sa, ma⟩ kind key val) = (⟨qa, (setT sa kind key).1, ma⟩, (setT sa kind key).2, 0) := (by unfold applyT; rw [if_neg (by omega), if_pos (by omega)]); rw [hA]; exact .inr (.inr (.inr ⟨rfl, by rw [hs_374]⟩))) | (have hA : (applyT ⟨qa, sa, ma⟩ kind key val) = (⟨qa, sa, (pairsT ma kind key val).1⟩, (pairsT ma kind key val).2) := (by unfold applyT; rw [if_neg (by omega), if_neg (by omega), if_pos (by omega)]); rw [hA]; exact .inr (.inr (.inr ⟨rfl, by rw [hs_374]⟩)))
      ·
       refine K.xe (kind : Int) (6 : Int) h_368 ?_
       refine K.q [.bool false] (K.z (K.t (K.f (K.s ?_))))
       refine K.g ?_
       by_cases h_433 : (kind : Int) = (7 : Int)
       ·
        refine K.ye (kind : Int) (7 : Int) h_433 ?_
        refine K.q [.bool true] (K.z (K.t (K.h (K.k (K.t (K.h (K.s ?_)))))))
        refine K.g ?_
        refine K.a (K.QR.ldN [.slice q qa.length cq, .slice s sa.length cs, .slice m ma.length cm] rfl rfl (by kernel_rfl) (by kernel_rfl) (K.cells (K.cl (f_40.cell rfl) (K.cl (f_40.cell rfl) (K.cl (f_40.cell rfl) K.cl0))))) ?_
        refine K.a (K.QR.ldN [K.iv kind, .int .u32 key, .int .u32 val] rfl rfl (by kernel_rfl) (by kernel_rfl) (K.cells (K.cl (f_41.cell rfl) (K.cl (f_41.cell rfl) (K.cl (f_41.cell rfl) K.cl0))))) ?_
        refine K.l (K.OW.call rfl [.agg #[.slice q qa.length cq, .slice s sa.length cs, .slice m ma.length cm], .agg #[K.iv kind, .int .u32 key, .int .u32 val]] rfl rfl (by kernel_rfl) (pairs_ok _ _ _ _ _ _ _ _ ma (pairsT ma kind key val).1 kind key val (pairsT ma kind key val).2.1 (pairsT ma kind key val).2.2 _ (by omega) (by omega) (by assumption) (x3.no c_37) rfl) ?_)
        rintro _ w_436 (⟨m_434, c_435, rfl, ch_437, hx_438⟩ | ⟨hs_439, rfl, ch_440⟩)
        ·
         have c_441 := c_37.no ch_437
         have z_442 := c_441.size
         have zz_443 := ch_437.size
         have f_444 := f_40.no ch_437
         have f_445 := f_41.no ch_437
         have f_446 := f_42.no ch_437
         have f_447 := b_36.no ch_437
         have o_448 := K.Own.mono (base' := w0.heap.size) hx_438 (by omega)
         refine K.q [.agg #[.slice q qa.length cq, .slice s sa.length cs, .slice m_434 ((pairsT ma kind key val).1.length) c_435], .agg #[K.iv ((pairsT ma kind key val).2.1), .int .u32 ((pairsT ma kind key val).2.2)]] ?_
         refine K.l (K.OW.st [.slice q qa.length cq, .slice s sa.length cs, .slice m_434 ((pairsT ma kind key val).1.length) c_435] [.slice q qa.length cq, .slice s sa.length cs, .slice m_434 ((pairsT ma kind key val).1.length) c_435] rfl rfl rfl (by kernel_rfl) f_446 rfl (K.one_cells (by rfl)) rfl rfl ?_)
         intro w_449 e_450 hs_451 b_452
         have c_453 := c_441.own e_450 (by omega)
         have z_454 := c_453.size
         have zz_455 := e_450.size
         have f_456 := f_444.chg e_450 (by unfold K.Is; omega)
         have f_457 := f_445.chg e_450 (f_445.ne f_446 (by decide))
         have f_458 := f_447.chg e_450 (f_447.ne f_446 (by decide))
         have f_459 := o_448.chg e_450 (fun k hk hy => o_448.ne_ty f_446 (by decide) k hk hy)
         refine K.l (K.OW.st [K.iv ((pairsT ma kind key val).2.1), .int .u32 ((pairsT ma kind key val).2.2)] [K.iv ((pairsT ma kind key val).2.1), .int .u32 ((pairsT ma kind key val).2.2)] rfl rfl rfl (by kernel_rfl) f_458 rfl (K.one_cells (by rfl)) rfl rfl ?_)
         intro w_460 e_461 hs_462 b_463
         have c_464 := c_453.own e_461 (by omega)
         have z_465 := c_464.size
         have zz_466 := e_461.size
         have f_467 := f_456.chg e_461 (f_456.ne f_458 (by decide))
         have f_468 := f_457.chg e_461 (f_457.ne f_458 (by decide))
         have f_469 := b_452.chg e_461 (b_452.ne f_458 (by decide))
         have f_470 := f_459.chg e_461 (fun k hk hy => f_459.ne_ty f_458 (by decide) k hk hy)
         refine K.z (K.t (K.r ?_))
         refine K.blk_ret ?_
         refine K.u ?_
         refine ⟨.inr rfl, rfl, (.tuple #[.agg #[.slice q qa.length cq, .slice s sa.length cs, .slice m_434 ((pairsT ma kind key val).1.length) c_435], .agg #[K.iv ((pairsT ma kind key val).2.1), .int .u32 ((pairsT ma kind key val).2.2)]]), K.resAt (rs := [.cell 4 30, .cell 5 49]) [.agg #[.slice q qa.length cq, .slice s sa.length cs, .slice m_434 ((pairsT ma kind key val).1.length) c_435], .agg #[K.iv ((pairsT ma kind key val).2.1), .int .u32 ((pairsT ma kind key val).2.2)]] rfl ⟨⟨_, rfl, K.lvN [.slice q qa.length cq, .slice s sa.length cs, .slice m_434 ((pairsT ma kind key val).1.length) c_435] (by kernel_rfl) (by kernel_rfl) (K.cells (K.cl (f_469.cell rfl) (K.cl (f_469.cell rfl) (K.cl (f_469.cell rfl) K.cl0))))⟩, ⟨_, rfl, K.lvN [K.iv ((pairsT ma kind key val).2.1), .int .u32 ((pairsT ma kind key val).2.2)] (by kernel_rfl) (by kernel_rfl) (K.cells (K.cl (b_463.cell rfl) (K.cl (b_463.cell rfl) K.cl0)))⟩, trivial⟩, ?_⟩
         refine ⟨c_464, ?_⟩
         have hA : (applyT ⟨qa, sa, ma⟩ kind key val) = (⟨qa, sa, (pairsT ma kind key val).1⟩, (pairsT ma kind key val).2) := (by unfold applyT; rw [if_neg (by omega), if_neg (by omega), if_pos (by omega)])
         rw [hA]
         exact .inr (.inr (.inl ⟨_, _, rfl, f_470, rfl, rfl⟩))
        ·
         have c_471 := c_37.no ch_440
         have z_472 := c_471.size
         have zz_473 := ch_440.size
         have f_474 := f_40.no ch_440
         have f_475 := f_41.no ch_440
         have f_476 := f_42.no ch_440
         have f_477 := b_36.no ch_440
         refine K.q [.agg #[.slice q qa.length cq, .slice s sa.length cs, .slice m ma.length cm], .agg #[K.iv ((pairsT ma kind key val).2.1), .int .u32 ((pairsT ma kind key val).2.2)]] ?_
         refine K.l (K.OW.st [.slice q qa.length cq, .slice s sa.length cs, .slice m ma.length cm] [.slice q qa.length cq, .slice s sa.length cs, .slice m ma.length cm] rfl rfl rfl (by kernel_rfl) f_476 rfl (K.one_cells (by rfl)) rfl rfl ?_)
         intro w_478 e_479 hs_480 b_481
         have c_482 := c_471.own e_479 (by omega)
         have z_483 := c_482.size
         have zz_484 := e_479.size
         have f_485 := f_474.chg e_479 (by unfold K.Is; omega)
         have f_486 := f_475.chg e_479 (f_475.ne f_476 (by decide))
         have f_487 := f_477.chg e_479 (f_477.ne f_476 (by decide))
         refine K.l (K.OW.st [K.iv ((pairsT ma kind key val).2.1), .int .u32 ((pairsT ma kind key val).2.2)] [K.iv ((pairsT ma kind key val).2.1), .int .u32 ((pairsT ma kind key val).2.2)] rfl rfl rfl (by kernel_rfl) f_487 rfl (K.one_cells (by rfl)) rfl rfl ?_)
         intro w_488 e_489 hs_490 b_491
         have c_492 := c_482.own e_489 (by omega)
         have z_493 := c_492.size
         have zz_494 := e_489.size
         have f_495 := f_485.chg e_489 (f_485.ne f_487 (by decide))
         have f_496 := f_486.chg e_489 (f_486.ne f_487 (by decide))
         have f_497 := b_481.chg e_489 (b_481.ne f_487 (by decide))
         refine K.z (K.t (K.r ?_))
         refine K.blk_ret ?_
         refine K.u ?_
         refine ⟨.inr rfl, rfl, (.tuple #[.agg #[.slice q qa.length cq, .slice s sa.length cs, .slice m ma.length cm], .agg #[K.iv ((pairsT ma kind key val).2.1), .int .u32 ((pairsT ma kind key val).2.2)]]), K.resAt (rs := [.cell 4 30, .cell 5 49]) [.agg #[.slice q qa.length cq, .slice s sa.length cs, .slice m ma.length cm], .agg #[K.iv ((pairsT ma kind key val).2.1), .int .u32 ((pairsT ma kind key val).2.2)]] rfl ⟨⟨_, rfl, K.lvN [.slice q qa.length cq, .slice s sa.length cs, .slice m ma.length cm] (by kernel_rfl) (by kernel_rfl) (K.cells (K.cl (f_497.cell rfl) (K.cl (f_497.cell rfl) (K.cl (f_497.cell rfl) K.cl0))))⟩, ⟨_, rfl, K.lvN [K.iv ((pairsT ma kind key val).2.1), .int .u32 ((pairsT ma kind key val).2.2)] (by kernel_rfl) (by kernel_rfl) (K.cells (K.cl (b_491.cell rfl) (K.cl (b_491.cell rfl) K.cl0)))⟩, trivial⟩, ?_⟩
         refine ⟨c_492, ?_⟩
         first | (have hA : (applyT ⟨qa, sa, ma⟩ kind key val) = (⟨(queueT qa kind val).1, sa, ma⟩, (queueT qa kind val).2) := (by unfold applyT; rw [if_pos (by omega)]); rw [hA]; exact .inr (.inr (.inr ⟨rfl, by rw [hs_439]⟩))) | (have hA : (applyT ⟨qa, sa, ma⟩ kind key val) = (⟨qa, (setT sa kind key).1, ma⟩, (setT sa kind key).2, 0) := (by unfold applyT; rw [if_neg (by omega), if_pos (by omega)]); rw [hA]; exact .inr (.inr (.inr ⟨rfl, by rw [hs_439]⟩))) | (have hA : (applyT ⟨qa, sa, ma⟩ kind key val) = (⟨qa, sa, (pairsT ma kind key val).1⟩, (pairsT ma kind key val).2) := (by unfold applyT; rw [if_neg (by omega), if_neg (by omega), if_pos (by omega)]); rw [hA]; exact .inr (.inr (.inr ⟨rfl, by rw [hs_439]⟩)))
       ·
        refine K.xe (kind : Int) (7 : Int) h_433 ?_
        refine K.q [.bool false] (K.z (K.t (K.f ?_)))
        refine K.g ?_
        by_cases h_498 : (kind : Int) = (8 : Int)
        ·
         refine K.ye (kind : Int) (8 : Int) h_498 ?_
         refine K.q [.bool true] (K.z (K.t (K.h (K.s ?_))))
         refine K.g ?_
         refine K.a (K.QR.ldN [.slice q qa.length cq, .slice s sa.length cs, .slice m ma.length cm] rfl rfl (by kernel_rfl) (by kernel_rfl) (K.cells (K.cl (f_40.cell rfl) (K.cl (f_40.cell rfl) (K.cl (f_40.cell rfl) K.cl0))))) ?_
         refine K.a (K.QR.ldN [K.iv kind, .int .u32 key, .int .u32 val] rfl rfl (by kernel_rfl) (by kernel_rfl) (K.cells (K.cl (f_41.cell rfl) (K.cl (f_41.cell rfl) (K.cl (f_41.cell rfl) K.cl0))))) ?_
         refine K.l (K.OW.call rfl [.agg #[.slice q qa.length cq, .slice s sa.length cs, .slice m ma.length cm], .agg #[K.iv kind, .int .u32 key, .int .u32 val]] rfl rfl (by kernel_rfl) (pairs_ok _ _ _ _ _ _ _ _ ma (pairsT ma kind key val).1 kind key val (pairsT ma kind key val).2.1 (pairsT ma kind key val).2.2 _ (by omega) (by omega) (by assumption) (x3.no c_37) rfl) ?_)
         rintro _ w_501 (⟨m_499, c_500, rfl, ch_502, hx_503⟩ | ⟨hs_504, rfl, ch_505⟩)
         ·
          have c_506 := c_37.no ch_502
          have z_507 := c_506.size
          have zz_508 := ch_502.size
          have f_509 := f_40.no ch_502
          have f_510 := f_41.no ch_502
          have f_511 := f_42.no ch_502
          have f_512 := b_36.no ch_502
          have o_513 := K.Own.mono (base' := w0.heap.size) hx_503 (by omega)
          refine K.q [.agg #[.slice q qa.length cq, .slice s sa.length cs, .slice m_499 ((pairsT ma kind key val).1.length) c_500], .agg #[K.iv ((pairsT ma kind key val).2.1), .int .u32 ((pairsT ma kind key val).2.2)]] ?_
          refine K.l (K.OW.st [.slice q qa.length cq, .slice s sa.length cs, .slice m_499 ((pairsT ma kind key val).1.length) c_500] [.slice q qa.length cq, .slice s sa.length cs, .slice m_499 ((pairsT ma kind key val).1.length) c_500] rfl rfl rfl (by kernel_rfl) f_511 rfl (K.one_cells (by rfl)) rfl rfl ?_)
          intro w_514 e_515 hs_516 b_517
          have c_518 := c_506.own e_515 (by omega)
          have z_519 := c_518.size
          have zz_520 := e_515.size
          have f_521 := f_509.chg e_515 (by unfold K.Is; omega)
          have f_522 := f_510.chg e_515 (f_510.ne f_511 (by decide))
          have f_523 := f_512.chg e_515 (f_512.ne f_511 (by decide))
          have f_524 := o_513.chg e_515 (fun k hk hy => o_513.ne_ty f_511 (by decide) k hk hy)
          refine K.l (K.OW.st [K.iv ((pairsT ma kind key val).2.1), .int .u32 ((pairsT ma kind key val).2.2)] [K.iv ((pairsT ma kind key val).2.1), .int .u32 ((pairsT ma kind key val).2.2)] rfl rfl rfl (by kernel_rfl) f_523 rfl (K.one_cells (by rfl)) rfl rfl ?_)
          intro w_525 e_526 hs_527 b_528
          have c_529 := c_518.own e_526 (by omega)
          have z_530 := c_529.size
          have zz_531 := e_526.size
          have f_532 := f_521.chg e_526 (f_521.ne f_523 (by decide))
          have f_533 := f_522.chg e_526 (f_522.ne f_523 (by decide))
          have f_534 := b_517.chg e_526 (b_517.ne f_523 (by decide))
          have f_535 := f_524.chg e_526 (fun k hk hy => f_524.ne_ty f_523 (by decide) k hk hy)
          refine K.z (K.t (K.r ?_))
          refine K.blk_ret ?_
          refine K.u ?_
          refine ⟨.inr rfl, rfl, (.tuple #[.agg #[.slice q qa.length cq, .slice s sa.length cs, .slice m_499 ((pairsT ma kind key val).1.length) c_500], .agg #[K.iv ((pairsT ma kind key val).2.1), .int .u32 ((pairsT ma kind key val).2.2)]]), K.resAt (rs := [.cell 4 30, .cell 5 49]) [.agg #[.slice q qa.length cq, .slice s sa.length cs, .slice m_499 ((pairsT ma kind key val).1.length) c_500], .agg #[K.iv ((pairsT ma kind key val).2.1), .int .u32 ((pairsT ma kind key val).2.2)]] rfl ⟨⟨_, rfl, K.lvN [.slice q qa.length cq, .slice s sa.length cs, .slice m_499 ((pairsT ma kind key val).1.length) c_500] (by kernel_rfl) (by kernel_rfl) (K.cells (K.cl (f_534.cell rfl) (K.cl (f_534.cell rfl) (K.cl (f_534.cell rfl) K.cl0))))⟩, ⟨_, rfl, K.lvN [K.iv ((pairsT ma kind key val).2.1), .int .u32 ((pairsT ma kind key val).2.2)] (by kernel_rfl) (by kernel_rfl) (K.cells (K.cl (b_528.cell rfl) (K.cl (b_528.cell rfl) K.cl0)))⟩, trivial⟩, ?_⟩
          refine ⟨c_529, ?_⟩
          have hA : (applyT ⟨qa, sa, ma⟩ kind key val) = (⟨qa, sa, (pairsT ma kind key val).1⟩, (pairsT ma kind key val).2) := (by unfold applyT; rw [if_neg (by omega), if_neg (by omega), if_pos (by omega)])
          rw [hA]
          exact .inr (.inr (.inl ⟨_, _, rfl, f_535, rfl, rfl⟩))
         ·
          have c_536 := c_37.no ch_505
          have z_537 := c_536.size
          have zz_538 := ch_505.size
          have f_539 := f_40.no ch_505
          have f_540 := f_41.no ch_505
          have f_541 := f_42.no ch_505
          have f_542 := b_36.no ch_505
          refine K.q [.agg #[.slice q qa.length cq, .slice s sa.length cs, .slice m ma.length cm], .agg #[K.iv ((pairsT ma kind key val).2.1), .int .u32 ((pairsT ma kind key val).2.2)]] ?_
          refine K.l (K.OW.st [.slice q qa.length cq, .slice s sa.length cs, .slice m ma.length cm] [.slice q qa.length cq, .slice s sa.length cs, .slice m ma.length cm] rfl rfl rfl (by kernel_rfl) f_541 rfl (K.one_cells (by rfl)) rfl rfl ?_)
          intro w_543 e_544 hs_545 b_546
          have c_547 := c_536.own e_544 (by omega)
          have z_548 := c_547.size
          have zz_549 := e_544.size
          have f_550 := f_539.chg e_544 (by unfold K.Is; omega)
          have f_551 := f_540.chg e_544 (f_540.ne f_541 (by decide))
          have f_552 := f_542.chg e_544 (f_542.ne f_541 (by decide))
          refine K.l (K.OW.st [K.iv ((pairsT ma kind key val).2.1), .int .u32 ((pairsT ma kind key val).2.2)] [K.iv ((pairsT ma kind key val).2.1), .int .u32 ((pairsT ma kind key val).2.2)] rfl rfl rfl (by kernel_rfl) f_552 rfl (K.one_cells (by rfl)) rfl rfl ?_)
          intro w_553 e_554 hs_555 b_556
          have c_557 := c_547.own e_554 (by omega)
          have z_558 := c_557.size
          have zz_559 := e_554.size
          have f_560 := f_550.chg e_554 (f_550.ne f_552 (by decide))
          have f_561 := f_551.chg e_554 (f_551.ne f_552 (by decide))
          have f_562 := b_546.chg e_554 (b_546.ne f_552 (by decide))
          refine K.z (K.t (K.r ?_))
          refine K.blk_ret ?_
          refine K.u ?_
          refine ⟨.inr rfl, rfl, (.tuple #[.agg #[.slice q qa.length cq, .slice s sa.length cs, .slice m ma.length cm], .agg #[K.iv ((pairsT ma kind key val).2.1), .int .u32 ((pairsT ma kind key val).2.2)]]), K.resAt (rs := [.cell 4 30, .cell 5 49]) [.agg #[.slice q qa.length cq, .slice s sa.length cs, .slice m ma.length cm], .agg #[K.iv ((pairsT ma kind key val).2.1), .int .u32 ((pairsT ma kind key val).2.2)]] rfl ⟨⟨_, rfl, K.lvN [.slice q qa.length cq, .slice s sa.length cs, .slice m ma.length cm] (by kernel_rfl) (by kernel_rfl) (K.cells (K.cl (f_562.cell rfl) (K.cl (f_562.cell rfl) (K.cl (f_562.cell rfl) K.cl0))))⟩, ⟨_, rfl, K.lvN [K.iv ((pairsT ma kind key val).2.1), .int .u32 ((pairsT ma kind key val).2.2)] (by kernel_rfl) (by kernel_rfl) (K.cells (K.cl (b_556.cell rfl) (K.cl (b_556.cell rfl) K.cl0)))⟩, trivial⟩, ?_⟩
          refine ⟨c_557, ?_⟩
          first | (have hA : (applyT ⟨qa, sa, ma⟩ kind key val) = (⟨(queueT qa kind val).1, sa, ma⟩, (queueT qa kind val).2) := (by unfold applyT; rw [if_pos (by omega)]); rw [hA]; exact .inr (.inr (.inr ⟨rfl, by rw [hs_504]⟩))) | (have hA : (applyT ⟨qa, sa, ma⟩ kind key val) = (⟨qa, (setT sa kind key).1, ma⟩, (setT sa kind key).2, 0) := (by unfold applyT; rw [if_neg (by omega), if_pos (by omega)]); rw [hA]; exact .inr (.inr (.inr ⟨rfl, by rw [hs_504]⟩))) | (have hA : (applyT ⟨qa, sa, ma⟩ kind key val) = (⟨qa, sa, (pairsT ma kind key val).1⟩, (pairsT ma kind key val).2) := (by unfold applyT; rw [if_neg (by omega), if_neg (by omega), if_pos (by omega)]); rw [hA]; exact .inr (.inr (.inr ⟨rfl, by rw [hs_504]⟩)))
        ·
         refine K.xe (kind : Int) (8 : Int) h_498 ?_
         refine K.q [.bool false] (K.z (K.t (K.f (K.k ?_))))
         refine K.blk_normal ?_
         refine K.t (K.s ?_)
         refine K.g ?_
         refine K.a (K.QR.ldN [.slice q qa.length cq, .slice s sa.length cs, .slice m ma.length cm] rfl rfl (by kernel_rfl) (by kernel_rfl) (K.cells (K.cl (f_40.cell rfl) (K.cl (f_40.cell rfl) (K.cl (f_40.cell rfl) K.cl0))))) ?_
         refine K.a (K.QR.bd [] [K.iv 0, .int .u32 0] rfl rfl (by kernel_rfl)) ?_
         refine K.l (K.OW.st [.slice q qa.length cq, .slice s sa.length cs, .slice m ma.length cm] [.slice q qa.length cq, .slice s sa.length cs, .slice m ma.length cm] rfl rfl rfl (by kernel_rfl) f_42 rfl (K.one_cells (by rfl)) rfl rfl ?_)
         intro w_563 e_564 hs_565 b_566
         have c_567 := c_37.own e_564 (by omega)
         have z_568 := c_567.size
         have zz_569 := e_564.size
         have f_570 := f_40.chg e_564 (by unfold K.Is; omega)
         have f_571 := f_41.chg e_564 (f_41.ne f_42 (by decide))
         have f_572 := b_36.chg e_564 (b_36.ne f_42 (by decide))
         refine K.l (K.OW.st [K.iv 0, .int .u32 0] [K.iv 0, .int .u32 0] rfl rfl rfl (by kernel_rfl) f_572 rfl (K.one_cells (by rfl)) rfl rfl ?_)
         intro w_573 e_574 hs_575 b_576
         have c_577 := c_567.own e_574 (by omega)
         have z_578 := c_577.size
         have zz_579 := e_574.size
         have f_580 := f_570.chg e_574 (f_570.ne f_572 (by decide))
         have f_581 := f_571.chg e_574 (f_571.ne f_572 (by decide))
         have f_582 := b_566.chg e_574 (b_566.ne f_572 (by decide))
         refine K.z (K.t (K.r ?_))
         refine ⟨.inr rfl, rfl, (.tuple #[.agg #[.slice q qa.length cq, .slice s sa.length cs, .slice m ma.length cm], .agg #[K.iv 0, .int .u32 0]]), K.resAt (rs := [.cell 4 30, .cell 5 49]) [.agg #[.slice q qa.length cq, .slice s sa.length cs, .slice m ma.length cm], .agg #[K.iv 0, .int .u32 0]] rfl ⟨⟨_, rfl, K.lvN [.slice q qa.length cq, .slice s sa.length cs, .slice m ma.length cm] (by kernel_rfl) (by kernel_rfl) (K.cells (K.cl (f_582.cell rfl) (K.cl (f_582.cell rfl) (K.cl (f_582.cell rfl) K.cl0))))⟩, ⟨_, rfl, K.lvN [K.iv 0, .int .u32 0] (by kernel_rfl) (by kernel_rfl) (K.cells (K.cl (b_576.cell rfl) (K.cl (b_576.cell rfl) K.cl0)))⟩, trivial⟩, ?_⟩
         refine ⟨c_577, ?_⟩
         have hA : (applyT ⟨qa, sa, ma⟩ kind key val) = (⟨qa, sa, ma⟩, 0, 0) := (by unfold applyT; rw [if_neg (by omega), if_neg (by omega), if_neg (by omega)])
         rw [hA]
         exact .inr (.inr (.inr ⟨rfl, rfl⟩))
end Go.Proofs.Ytnehocjmgnhhhaa
