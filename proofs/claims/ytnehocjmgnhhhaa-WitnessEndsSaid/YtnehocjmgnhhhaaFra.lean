import Derived.Test.YtnehocjmgnhhhaaFaw2
import Derived.Test.YtnehocjmgnhhhaaKn
/- Operations: the document's Apply, what was stays. -/
namespace Go.Proofs.Ytnehocjmgnhhhaa
open Go.RowKit
set_option linter.unusedVariables false
attribute [local irreducible] K.KW K.RW K.DW K.OW K.QR K.KC
def ApB (q s m : Option Addr) (cq cs cm : Nat) (qa sa : List Int) (ma : List PairM) (T : StM × Int × Int) (v : Value) (post : List K.Cs) : Prop :=
 ∃ z, v = .tuple #[z, .agg #[K.iv T.2.1, .int .u32 T.2.2]] ∧
 ((∃ a c l, post = [l] ∧ K.OwnG l 45 1 a T.1.q.length c (T.1.q.flatMap cU32) ∧ z = .agg #[.slice a T.1.q.length c, .slice s sa.length cs, .slice m ma.length cm] ∧ T.1.s = sa ∧ T.1.m = ma) ∨
  (∃ a c l, post = [l] ∧ K.OwnG l 45 1 a T.1.s.length c (T.1.s.flatMap cU32) ∧ z = .agg #[.slice q qa.length cq, .slice a T.1.s.length c, .slice m ma.length cm] ∧ T.1.q = qa ∧ T.1.m = ma) ∨
  (∃ a c l, post = [l] ∧ K.OwnG l 59 2 a T.1.m.length c (T.1.m.flatMap cPair) ∧ z = .agg #[.slice q qa.length cq, .slice s sa.length cs, .slice a T.1.m.length c] ∧ T.1.q = qa ∧ T.1.s = sa) ∨
  (post = [] ∧ T.1 = ⟨qa, sa, ma⟩ ∧ z = .agg #[.slice q qa.length cq, .slice s sa.length cs, .slice m ma.length cm]) ∨
  (post = [] ∧ T.1 = ⟨qa.drop 1, sa, ma⟩ ∧ 1 ≤ qa.length ∧ z = .agg #[.slice (K.shift q cq 1 1) (qa.length - 1) (cq - 1), .slice s sa.length cs, .slice m ma.length cm]))
set_option maxHeartbeats 1000000 in
set_option maxRecDepth 100000 in
theorem rapplyB1_ok (w0 : World) (q s m : Option Addr) (cq cs cm : Nat) (qa sa : List Int) (ma : List PairM) (key val : Int) (h1 : qa.length ≤ 1000000) (h2 : sa.length ≤ 1000000) (h3 : ma.length ≤ 1000000) (hr1 : rising sa) (hr2 : rising (keysP ma)) (hc : qa.length ≤ cq) (x1 : RU32 w0 q qa) (x2 : RU32 w0 s sa) (x3 : RPr w0 m ma) :
  K.GC Try.prog w0 31 #[.agg #[.slice q qa.length cq, .slice s sa.length cs, .slice m ma.length cm], .agg #[K.iv 1, .int .u32 key, .int .u32 val]] [] (ApB q s m cq cs cm qa sa ma (applyT ⟨qa, sa, ma⟩ 1 key val)) := by
 refine K.GC.mk (n := 192) Try.func31 rfl rfl [.agg #[.slice q qa.length cq, .slice s sa.length cs, .slice m ma.length cm], .agg #[K.iv 1, .int .u32 key, .int .u32 val]] rfl rfl ?_
 intro fr w hS
 replace hS : K.Sat w0 [fr] w := hS
 refine K.s (K.g ?_)
 refine K.l (K.OW.gnew 30 [.slice q qa.length cq, .slice s sa.length cs, .slice m ma.length cm] hS ?_)
 clear hS; intro w r_1 g_2 hg_3 hS
 refine K.l (K.OW.gnew 47 [K.iv 1, .int .u32 key, .int .u32 val] hS ?_)
 clear hS; intro w r_4 g_5 hg_6 hS
 refine K.l (K.OW.gnew 30 [.slice none 0 0, .slice none 0 0, .slice none 0 0] hS ?_)
 clear hS; intro w r_7 g_8 hg_9 hS
 refine K.l (K.OW.gnew 49 [K.iv 0, .int .u32 0] hS ?_)
 clear hS; intro w r_10 g_11 hg_12 hS
 refine K.z (K.t (K.s (K.s (K.g (K.q [K.pa r_4] ?_)))))
 refine K.d (K.iv 1) ((hS.blk 2 rfl hg_6).cell rfl) ?_
 refine K.q [.bool true] (K.z (K.t (K.h (K.s (K.g (K.q [.slice none 0 0] (K.z (K.t (K.s (K.s (K.g (K.q [K.iv 0] (K.z (K.t ?_))))))))))))))
 refine K.KW.block ?_
 obtain ⟨z_13, hz_14⟩ : ∃ z : K.Cs, z = [] := ⟨_, rfl⟩
 replace hS : K.Sat w0 [z_13, g_11, g_8, g_5, g_2, fr] w := hS.of (by simp [hz_14])
 have o_15 : K.OwnG z_13 45 1 none 0 0 [] := by rw [hz_14]; exact K.OwnG.nil _ _
 refine K.KW.loop (fun m_ F_ w_ => ∃ (j : Nat) (q1 : Option Addr) (c1 : Nat) (o1 : K.Cs), m_ = qa.length - j ∧ K.Sl F_ [(0, .agg #[.slice q qa.length cq, .slice s sa.length cs, .slice m ma.length cm]), (1, .agg #[K.iv 1, .int .u32 key, .int .u32 val]), (2, K.pa r_1), (3, K.pa r_4), (4, K.pa r_7), (5, K.pa r_10), (6, .slice q1 j c1), (7, K.iv ((j : Nat) : Int)), (192, undef)] ∧ j ≤ qa.length ∧ K.OwnG o1 45 1 q1 j c1 (((qa.take j)).flatMap cU32) ∧ K.Sat w0 [o1, g_11, g_8, g_5, g_2, fr] w_) ((fun (j : Nat) (q1 : Option Addr) (c1 : Nat) => qa.length - j) 0 none 0) ?_ ?_
 ·
  exact ⟨0, none, 0, z_13, rfl, ⟨by rfl, by rfl, by rfl, by rfl, by rfl, by rfl, by rfl, by rfl, by rfl, trivial⟩, (by omega), o_15, hS.pick [0, 1, 2, 3, 4, 5]⟩
 ·
  clear hS
  intro m_16 F_17 w hI
  obtain ⟨j, q1, c1, o1, rfl, sl_18, p_19, x_20, hS⟩ := hI
  rw [← K.Sl.puts sl_18]; clear sl_18
  refine K.s (K.s (K.g (K.q [K.iv ((j : Nat) : Int), K.pa r_1] ?_)))
  refine K.d (.slice q qa.length cq) ((hS.blk 4 rfl hg_3).cell rfl) ?_
  refine K.a (K.QR.len (P := Try.prog) rfl rfl Try.underlying27) ?_
  by_cases h_21 : (((j : Nat) : Int) : Int) < (((qa.length : Nat) : Int) : Int)
  ·
   refine K.y ((((j : Nat) : Int) : Int) < (((qa.length : Nat) : Int) : Int)) h_21 ?_
   refine K.z (K.t (K.h (K.k (K.t (K.s ?_)))))
   refine K.KW.block ?_
   obtain ⟨b_22, of_23, rfl, _⟩ := x1.at_ (by omega)
   refine K.g (K.q [.slice q1 j c1, K.pa r_1] ?_)
   refine K.d (.slice (some ⟨b_22, of_23, none⟩) qa.length cq) ((hS.blk 4 rfl hg_3).cell rfl) ?_
   refine K.q [K.iv ((j : Nat) : Int)] ?_
   refine K.a (K.QR.ix (of_23 + j * 1) 1 rfl rfl rfl Try.underlying27 (by kernel_rfl) (by omega) (by first | (simp; done) | omega | (simp; omega))) ?_
   refine K.d (.int .u32 (qa.getD j 0)) ((x1.no hS.chg).ld j (by omega) 0 _ rfl) ?_
   refine K.l (K.OW.gbs [(0, .int .u32 (qa.getD j 0))] [.int .u32 (qa.getD j 0)] hS (fun w => K.bs_run (P := Try.prog) w 27 45 1 _ _ Try.underlying27 (by kernel_rfl)) ?_)
   clear hS; intro w r_24 g_25 hg_26 hS
   refine K.l (K.OW.gapp (P := Try.prog) (xs := ((qa.take j)).flatMap cU32) (z := .int .u32 0) (size := 1) (bytes := 4) 1 [.int .u32 (qa.getD j 0)] hS x_20 ?_ (fun j u hj => (by rw [Nat.zero_add]; exact (hS.blk 0 rfl hg_26).cell hj)) (K.one_cells (by rfl)) (by rfl) Try.underlying27 (by kernel_rfl) rfl (by decide) (by unfold maxLen; omega) (by omega))
   clear hS; intro a_27 cap_28 w l_29 o_30 hS
   have ln_31 : (((qa.take j) ++ [(qa.getD j 0 : Int)])).length = j + 1 := by rw [List.length_append, (tk_len (by omega))]; rfl
   have o_30c := K.OwnG.cast (xs' := (((qa.take j) ++ [(qa.getD j 0 : Int)])).flatMap cU32) o_30 rfl (K.fl_snoc cU32 (qa.take j) (qa.getD j 0 : Int) rfl)
   replace hS : K.Sat w0 [g_25, l_29, g_11, g_8, g_5, g_2, fr] w := hS
   refine K.q [.slice a_27 (j + 1) cap_28] (K.z ?_)
   refine K.blk_normal ?_
   refine K.t (K.g (K.q [K.iv ((j : Nat) : Int)] ?_))
   refine K.a (K.QR.n64 ((((j : Nat) : Int) : Int) + (1 : Int)) ((j + 1 : Nat) : Int) (by kernel_rfl) (by omega)) ?_
   refine K.q [K.iv ((j + 1 : Nat) : Int)] (K.z (K.t ?_))
   refine ⟨_, ?_, j + 1, a_27, cap_28, l_29, rfl, ⟨by rfl, by rfl, by rfl, by rfl, by rfl, by rfl, by rfl, by rfl, by rfl, trivial⟩, (by omega), (by rw [tk_snoc (d := 0) (by omega)]; exact o_30c), hS.pick [1, 2, 3, 4, 5, 6]⟩
   omega
  ·
   refine K.x ((((j : Nat) : Int) : Int) < (((qa.length : Nat) : Int) : Int)) h_21 ?_
   refine K.z (K.t (K.f ?_))
   refine K.KW.exit ?_
   refine K.thn_exit ?_
   refine K.thn_exit ?_
   refine K.blk_hit ?_
   refine K.t (K.s (K.g (K.q [.slice q1 j c1, .pointer (some ⟨r_4, 2, none⟩)] ?_)))
   refine K.d (.int .u32 val) ((hS.blk 3 rfl hg_6).cell rfl) ?_
   refine K.l (K.OW.gbs [(0, .int .u32 val)] [.int .u32 val] hS (fun w => K.bs_run (P := Try.prog) w 27 45 1 _ _ Try.underlying27 (by kernel_rfl)) ?_)
   clear hS; intro w r_32 g_33 hg_34 hS
   refine K.l (K.OW.gapp (P := Try.prog) (xs := ((qa.take j)).flatMap cU32) (z := .int .u32 0) (size := 1) (bytes := 4) 1 [.int .u32 val] hS x_20 ?_ (fun j u hj => (by rw [Nat.zero_add]; exact (hS.blk 0 rfl hg_34).cell hj)) (K.one_cells (by rfl)) (by rfl) Try.underlying27 (by kernel_rfl) rfl (by decide) (by unfold maxLen; omega) (by omega))
   clear hS; intro a_35 cap_36 w l_37 o_38 hS
   have ln_39 : (((qa.take j) ++ [(val : Int)])).length = j + 1 := by rw [List.length_append, (tk_len (by omega))]; rfl
   have o_38c := K.OwnG.cast (xs' := (((qa.take j) ++ [(val : Int)])).flatMap cU32) o_38 rfl (K.fl_snoc cU32 (qa.take j) (val : Int) rfl)
   replace hS : K.Sat w0 [g_33, l_37, g_11, g_8, g_5, g_2, fr] w := hS
   refine K.q [.slice a_35 (j + 1) cap_36] (K.z (K.t (K.s (K.g (K.q [.slice a_35 (j + 1) cap_36, K.pa r_1] ?_)))))
   refine K.l (K.OW.gst 5 [.slice a_35 (j + 1) cap_36] _ hS hg_3 ?_)
   clear hS; intro w g_40 hg_41 hS
   replace hS : K.Sat w0 [g_33, l_37, g_11, g_8, g_5, g_40, fr] w := hS
   refine K.z (K.t (K.s (K.g ?_)))
   refine K.a (K.QR.ldN [.slice a_35 (j + 1) cap_36, .slice s sa.length cs, .slice m ma.length cm] rfl rfl (by kernel_rfl) (by kernel_rfl) (K.cells (K.cl ((hS.blk 5 rfl hg_41).cell rfl) (K.cl ((hS.blk 5 rfl hg_41).cell rfl) (K.cl ((hS.blk 5 rfl hg_41).cell rfl) K.cl0))))) ?_
   refine K.a (K.QR.bd [(0, K.iv 1)] [K.iv 1, .int .u32 0] rfl rfl (by kernel_rfl)) ?_
   refine K.l (K.OW.gst 3 [.slice a_35 (j + 1) cap_36, .slice s sa.length cs, .slice m ma.length cm] _ hS hg_9 ?_)
   clear hS; intro w g_42 hg_43 hS
   replace hS : K.Sat w0 [g_33, l_37, g_11, g_42, g_5, g_40, fr] w := hS
   refine K.l (K.OW.gst 2 [K.iv 1, .int .u32 0] _ hS hg_12 ?_)
   clear hS; intro w g_44 hg_45 hS
   replace hS : K.Sat w0 [g_33, l_37, g_44, g_42, g_5, g_40, fr] w := hS
   refine K.z (K.t (K.r (K.u ?_)))
   have hA : applyT ⟨qa, sa, ma⟩ 1 key val = (⟨((qa.take j) ++ [(val : Int)]), sa, ma⟩, 1, 0) := by rw [ap1, List.take_of_length_le (by omega)]
   rw [hA]
   have hln : (((qa.take j) ++ [(val : Int)])).length = j + 1 := by first | (simp; done) | (simp; omega)
   refine ⟨.inr rfl, rfl, (.tuple #[.agg #[.slice a_35 (j + 1) cap_36, .slice s sa.length cs, .slice m ma.length cm], .agg #[K.iv 1, .int .u32 0]]), K.resAt (rs := [.cell 4 30, .cell 5 49]) [.agg #[.slice a_35 (j + 1) cap_36, .slice s sa.length cs, .slice m ma.length cm], .agg #[K.iv 1, .int .u32 0]] rfl ⟨⟨_, rfl, K.lvN [.slice a_35 (j + 1) cap_36, .slice s sa.length cs, .slice m ma.length cm] (by kernel_rfl) (by kernel_rfl) (K.cells (K.cl ((hS.blk 3 rfl hg_43).cell rfl) (K.cl ((hS.blk 3 rfl hg_43).cell rfl) (K.cl ((hS.blk 3 rfl hg_43).cell rfl) K.cl0))))⟩, ⟨_, rfl, K.lvN [K.iv 1, .int .u32 0] (by kernel_rfl) (by kernel_rfl) (K.cells (K.cl ((hS.blk 2 rfl hg_45).cell rfl) (K.cl ((hS.blk 2 rfl hg_45).cell rfl) K.cl0)))⟩, trivial⟩, [l_37], ?_, hS.pick [1, 6]⟩
   exact ⟨_, rfl, .inl ⟨_, _, _, rfl, by rw [hln]; exact K.OwnG.cast o_38c rfl (by first | rfl | (rw [List.take_of_length_le (by omega)])), by rw [hln], rfl, rfl⟩⟩
set_option maxHeartbeats 1000000 in
set_option maxRecDepth 100000 in
theorem rapplyB2_ok (w0 : World) (q s m : Option Addr) (cq cs cm : Nat) (qa sa : List Int) (ma : List PairM) (key val : Int) (h1 : qa.length ≤ 1000000) (h2 : sa.length ≤ 1000000) (h3 : ma.length ≤ 1000000) (hr1 : rising sa) (hr2 : rising (keysP ma)) (hc : qa.length ≤ cq) (x1 : RU32 w0 q qa) (x2 : RU32 w0 s sa) (x3 : RPr w0 m ma) :
  K.GC Try.prog w0 31 #[.agg #[.slice q qa.length cq, .slice s sa.length cs, .slice m ma.length cm], .agg #[K.iv 2, .int .u32 key, .int .u32 val]] [] (ApB q s m cq cs cm qa sa ma (applyT ⟨qa, sa, ma⟩ 2 key val)) := by
 refine K.GC.mk (n := 192) Try.func31 rfl rfl [.agg #[.slice q qa.length cq, .slice s sa.length cs, .slice m ma.length cm], .agg #[K.iv 2, .int .u32 key, .int .u32 val]] rfl rfl ?_
 intro fr w hS
 replace hS : K.Sat w0 [fr] w := hS
 refine K.s (K.g ?_)
 refine K.l (K.OW.gnew 30 [.slice q qa.length cq, .slice s sa.length cs, .slice m ma.length cm] hS ?_)
 clear hS; intro w r_1 g_2 hg_3 hS
 refine K.l (K.OW.gnew 47 [K.iv 2, .int .u32 key, .int .u32 val] hS ?_)
 clear hS; intro w r_4 g_5 hg_6 hS
 refine K.l (K.OW.gnew 30 [.slice none 0 0, .slice none 0 0, .slice none 0 0] hS ?_)
 clear hS; intro w r_7 g_8 hg_9 hS
 refine K.l (K.OW.gnew 49 [K.iv 0, .int .u32 0] hS ?_)
 clear hS; intro w r_10 g_11 hg_12 hS
 refine K.z (K.t (K.s (K.s (K.g (K.q [K.pa r_4] ?_)))))
 refine K.d (K.iv 2) ((hS.blk 2 rfl hg_6).cell rfl) ?_
 refine K.q [.bool false] (K.z (K.t (K.f (K.k (K.t (K.s (K.s (K.g (K.q [K.pa r_4] ?_)))))))))
 refine K.d (K.iv 2) ((hS.blk 2 rfl hg_6).cell rfl) ?_
 refine K.q [.bool true, .bool true, K.pa r_1] ?_
 refine K.d (.slice q qa.length cq) ((hS.blk 3 rfl hg_3).cell rfl) ?_
 refine K.a (K.QR.len (P := Try.prog) rfl rfl Try.underlying27) ?_
 by_cases h_13 : (((qa.length : Nat) : Int) : Int) = (0 : Int)
 ·
  refine K.ye (((qa.length : Nat) : Int) : Int) (0 : Int) h_13 ?_
  refine K.q [.bool true] (K.z (K.t (K.h (K.s (K.g ?_)))))
  refine K.a (K.QR.ldN [.slice q qa.length cq, .slice s sa.length cs, .slice m ma.length cm] rfl rfl (by kernel_rfl) (by kernel_rfl) (K.cells (K.cl ((hS.blk 3 rfl hg_3).cell rfl) (K.cl ((hS.blk 3 rfl hg_3).cell rfl) (K.cl ((hS.blk 3 rfl hg_3).cell rfl) K.cl0))))) ?_
  refine K.a (K.QR.bd [(0, K.iv 2)] [K.iv 2, .int .u32 0] rfl rfl (by kernel_rfl)) ?_
  refine K.l (K.OW.gst 1 [.slice q qa.length cq, .slice s sa.length cs, .slice m ma.length cm] _ hS hg_9 ?_)
  clear hS; intro w g_14 hg_15 hS
  replace hS : K.Sat w0 [g_11, g_14, g_5, g_2, fr] w := hS
  refine K.l (K.OW.gst 0 [K.iv 2, .int .u32 0] _ hS hg_12 ?_)
  clear hS; intro w g_16 hg_17 hS
  replace hS : K.Sat w0 [g_16, g_14, g_5, g_2, fr] w := hS
  refine K.z (K.t (K.r (K.u ?_)))
  have hA : applyT ⟨qa, sa, ma⟩ 2 key val = (⟨qa, sa, ma⟩, 2, 0) := ap2e (by omega)
  rw [hA]
  refine ⟨.inr rfl, rfl, (.tuple #[.agg #[.slice q qa.length cq, .slice s sa.length cs, .slice m ma.length cm], .agg #[K.iv 2, .int .u32 0]]), K.resAt (rs := [.cell 4 30, .cell 5 49]) [.agg #[.slice q qa.length cq, .slice s sa.length cs, .slice m ma.length cm], .agg #[K.iv 2, .int .u32 0]] rfl ⟨⟨_, rfl, K.lvN [.slice q qa.length cq, .slice s sa.length cs, .slice m ma.length cm] (by kernel_rfl) (by kernel_rfl) (K.cells (K.cl ((hS.blk 1 rfl hg_15).cell rfl) (K.cl ((hS.blk 1 rfl hg_15).cell rfl) (K.cl ((hS.blk 1 rfl hg_15).cell rfl) K.cl0))))⟩, ⟨_, rfl, K.lvN [K.iv 2, .int .u32 0] (by kernel_rfl) (by kernel_rfl) (K.cells (K.cl ((hS.blk 0 rfl hg_17).cell rfl) (K.cl ((hS.blk 0 rfl hg_17).cell rfl) K.cl0)))⟩, trivial⟩, [], ?_, hS.pick [4]⟩
  exact ⟨_, rfl, .inr (.inr (.inr (.inl ⟨rfl, rfl, rfl⟩)))⟩
 ·
  refine K.xe (((qa.length : Nat) : Int) : Int) (0 : Int) h_13 ?_
  refine K.q [.bool false] (K.z (K.t (K.f (K.k (K.t (K.s (K.s (K.g (K.q [K.pa r_4] ?_)))))))))
  refine K.d (K.iv 2) ((hS.blk 2 rfl hg_6).cell rfl) ?_
  refine K.q [.bool true] (K.z (K.t (K.h (K.s ?_))))
  obtain ⟨b_18, of_19, rfl, _⟩ := x1.at_ (by omega)
  refine K.g (K.q [K.pa r_1] ?_)
  refine K.d (.slice (some ⟨b_18, of_19, none⟩) qa.length cq) ((hS.blk 3 rfl hg_3).cell rfl) ?_
  refine K.a (K.QR.ix (of_19 + 0 * 1) 1 rfl rfl rfl Try.underlying27 (by kernel_rfl) (by omega) (by first | (simp; done) | omega | (simp; omega))) ?_
  refine K.d (.int .u32 (qa.getD 0 0)) ((x1.no hS.chg).ld 0 (by omega) 0 _ rfl) ?_
  refine K.q [.int .u32 (qa.getD 0 0)] (K.z (K.t (K.s (K.g (K.q [K.pa r_1] ?_)))))
  refine K.d (.slice (some ⟨b_18, of_19, none⟩) qa.length cq) ((hS.blk 3 rfl hg_3).cell rfl) ?_
  refine K.a (K.QR.slLo (size := 1) 1 rfl rfl rfl Try.underlying27 (by kernel_rfl) (by omega) rfl) ?_
  refine K.q [K.pa r_1] ?_
  refine K.l (K.OW.gst 3 [.slice (K.shift (some ⟨b_18, of_19, none⟩) cq 1 1) (qa.length - 1) (cq - 1)] _ hS hg_3 ?_)
  clear hS; intro w g_20 hg_21 hS
  replace hS : K.Sat w0 [g_11, g_8, g_5, g_20, fr] w := hS
  refine K.z (K.t (K.s (K.g ?_)))
  refine K.a (K.QR.ldN [.slice (K.shift (some ⟨b_18, of_19, none⟩) cq 1 1) (qa.length - 1) (cq - 1), .slice s sa.length cs, .slice m ma.length cm] rfl rfl (by kernel_rfl) (by kernel_rfl) (K.cells (K.cl ((hS.blk 3 rfl hg_21).cell rfl) (K.cl ((hS.blk 3 rfl hg_21).cell rfl) (K.cl ((hS.blk 3 rfl hg_21).cell rfl) K.cl0))))) ?_
  refine K.q [.int .u32 (qa.getD 0 0)] ?_
  refine K.a (K.QR.bd [(0, K.iv 1), (1, .int .u32 (qa.getD 0 0))] [K.iv 1, .int .u32 (qa.getD 0 0)] rfl rfl (by kernel_rfl)) ?_
  refine K.l (K.OW.gst 1 [.slice (K.shift (some ⟨b_18, of_19, none⟩) cq 1 1) (qa.length - 1) (cq - 1), .slice s sa.length cs, .slice m ma.length cm] _ hS hg_9 ?_)
  clear hS; intro w g_22 hg_23 hS
  replace hS : K.Sat w0 [g_11, g_22, g_5, g_20, fr] w := hS
  refine K.l (K.OW.gst 0 [K.iv 1, .int .u32 (qa.getD 0 0)] _ hS hg_12 ?_)
  clear hS; intro w g_24 hg_25 hS
  replace hS : K.Sat w0 [g_24, g_22, g_5, g_20, fr] w := hS
  refine K.z (K.t (K.r (K.u ?_)))
  have hA : applyT ⟨qa, sa, ma⟩ 2 key val = (⟨(qa.drop 1), sa, ma⟩, 1, qa.getD 0 0) := ap2 (by omega)
  rw [hA]
  refine ⟨.inr rfl, rfl, (.tuple #[.agg #[.slice (K.shift (some ⟨b_18, of_19, none⟩) cq 1 1) (qa.length - 1) (cq - 1), .slice s sa.length cs, .slice m ma.length cm], .agg #[K.iv 1, .int .u32 (qa.getD 0 0)]]), K.resAt (rs := [.cell 4 30, .cell 5 49]) [.agg #[.slice (K.shift (some ⟨b_18, of_19, none⟩) cq 1 1) (qa.length - 1) (cq - 1), .slice s sa.length cs, .slice m ma.length cm], .agg #[K.iv 1, .int .u32 (qa.getD 0 0)]] rfl ⟨⟨_, rfl, K.lvN [.slice (K.shift (some ⟨b_18, of_19, none⟩) cq 1 1) (qa.length - 1) (cq - 1), .slice s sa.length cs, .slice m ma.length cm] (by kernel_rfl) (by kernel_rfl) (K.cells (K.cl ((hS.blk 1 rfl hg_23).cell rfl) (K.cl ((hS.blk 1 rfl hg_23).cell rfl) (K.cl ((hS.blk 1 rfl hg_23).cell rfl) K.cl0))))⟩, ⟨_, rfl, K.lvN [K.iv 1, .int .u32 (qa.getD 0 0)] (by kernel_rfl) (by kernel_rfl) (K.cells (K.cl ((hS.blk 0 rfl hg_25).cell rfl) (K.cl ((hS.blk 0 rfl hg_25).cell rfl) K.cl0)))⟩, trivial⟩, [], ?_, hS.pick [4]⟩
  exact ⟨_, rfl, .inr (.inr (.inr (.inr ⟨rfl, rfl, by omega, rfl⟩)))⟩
set_option maxHeartbeats 1000000 in
set_option maxRecDepth 100000 in
theorem rapplyB3_ok (w0 : World) (q s m : Option Addr) (cq cs cm : Nat) (qa sa : List Int) (ma : List PairM) (key val : Int) (h1 : qa.length ≤ 1000000) (h2 : sa.length ≤ 1000000) (h3 : ma.length ≤ 1000000) (hr1 : rising sa) (hr2 : rising (keysP ma)) (hc : qa.length ≤ cq) (x1 : RU32 w0 q qa) (x2 : RU32 w0 s sa) (x3 : RPr w0 m ma) :
  K.GC Try.prog w0 31 #[.agg #[.slice q qa.length cq, .slice s sa.length cs, .slice m ma.length cm], .agg #[K.iv 3, .int .u32 key, .int .u32 val]] [] (ApB q s m cq cs cm qa sa ma (applyT ⟨qa, sa, ma⟩ 3 key val)) := by
 refine K.GC.mk (n := 192) Try.func31 rfl rfl [.agg #[.slice q qa.length cq, .slice s sa.length cs, .slice m ma.length cm], .agg #[K.iv 3, .int .u32 key, .int .u32 val]] rfl rfl ?_
 intro fr w hS
 replace hS : K.Sat w0 [fr] w := hS
 refine K.s (K.g ?_)
 refine K.l (K.OW.gnew 30 [.slice q qa.length cq, .slice s sa.length cs, .slice m ma.length cm] hS ?_)
 clear hS; intro w r_1 g_2 hg_3 hS
 refine K.l (K.OW.gnew 47 [K.iv 3, .int .u32 key, .int .u32 val] hS ?_)
 clear hS; intro w r_4 g_5 hg_6 hS
 refine K.l (K.OW.gnew 30 [.slice none 0 0, .slice none 0 0, .slice none 0 0] hS ?_)
 clear hS; intro w r_7 g_8 hg_9 hS
 refine K.l (K.OW.gnew 49 [K.iv 0, .int .u32 0] hS ?_)
 clear hS; intro w r_10 g_11 hg_12 hS
 refine K.z (K.t (K.s (K.s (K.g (K.q [K.pa r_4] ?_)))))
 refine K.d (K.iv 3) ((hS.blk 2 rfl hg_6).cell rfl) ?_
 refine K.q [.bool false] (K.z (K.t (K.f (K.k (K.t (K.s (K.s (K.g (K.q [K.pa r_4] ?_)))))))))
 refine K.d (K.iv 3) ((hS.blk 2 rfl hg_6).cell rfl) ?_
 refine K.q [.bool false, .bool false] (K.n_ (K.n_ (K.n_ (K.n_ (K.q [.bool false] (K.z (K.t (K.f (K.k (K.t (K.s (K.s (K.g (K.q [K.pa r_4] ?_))))))))))))))
 refine K.d (K.iv 3) ((hS.blk 2 rfl hg_6).cell rfl) ?_
 refine K.q [.bool false] (K.z (K.t (K.f (K.k (K.t (K.s (K.g (K.q [.bool false] (K.z (K.t (K.s (K.s (K.g (K.q [K.iv 0] ?_))))))))))))))
 refine K.z (K.t ?_)
 refine K.KW.block ?_
 refine K.KW.loop (fun m_ F_ w_ => ∃ (j : Nat) (f : Bool), m_ = sa.length - j ∧ K.Sl F_ [(0, .agg #[.slice q qa.length cq, .slice s sa.length cs, .slice m ma.length cm]), (1, .agg #[K.iv 3, .int .u32 key, .int .u32 val]), (2, K.pa r_1), (3, K.pa r_4), (4, K.pa r_7), (5, K.pa r_10), (9, .bool f), (10, K.iv ((j : Nat) : Int)), (192, undef)] ∧ j ≤ sa.length ∧ anyT idI key (sa.take j) = f ∧ K.Sat w0 [g_11, g_8, g_5, g_2, fr] w_) ((fun (j : Nat) (f : Bool) => sa.length - j) 0 false) ?_ ?_
 ·
  exact ⟨0, false, rfl, ⟨by rfl, by rfl, by rfl, by rfl, by rfl, by rfl, by rfl, by rfl, by rfl, trivial⟩, (by omega), (rfl), hS.pick [0, 1, 2, 3, 4]⟩
 ·
  clear hS
  intro m_13 F_14 w hI
  obtain ⟨j, f, rfl, sl_15, p_16, hf, hS⟩ := hI
  rw [← K.Sl.puts sl_15]; clear sl_15
  cases f
  ·
   refine K.s (K.s (K.g (K.q [K.pa r_4] ?_)))
   refine K.d (K.iv 3) ((hS.blk 2 rfl hg_6).cell rfl) ?_
   refine K.q [.bool true, .bool true, K.pa r_4] ?_
   refine K.d (K.iv 3) ((hS.blk 2 rfl hg_6).cell rfl) ?_
   refine K.q [.bool true, .bool true, .bool true, K.iv ((j : Nat) : Int), .pointer (some ⟨r_1, 1, none⟩)] ?_
   refine K.d (.slice s sa.length cs) ((hS.blk 3 rfl hg_3).cell rfl) ?_
   refine K.a (K.QR.len (P := Try.prog) rfl rfl Try.underlying27) ?_
   by_cases h_17 : (((j : Nat) : Int) : Int) < (((sa.length : Nat) : Int) : Int)
   ·
    refine K.y ((((j : Nat) : Int) : Int) < (((sa.length : Nat) : Int) : Int)) h_17 ?_
    refine K.q [.bool true] (K.z (K.t (K.h (K.k (K.t (K.s ?_))))))
    refine K.KW.block ?_
    obtain ⟨b_18, of_19, rfl, _⟩ := x2.at_ (by omega)
    refine K.KW.gdrawn [3] hS (by kernel_rfl) ?_
    clear hS; intro w hS
    refine K.b 0 rfl (.bool false) (hS.pick [3]) ?_
    refine K.b 1 rfl (.bool false) (hS.pick [3]) ?_
    refine K.p 2 rfl (.pointer (some ⟨r_1, 1, none⟩)) (hS.pick [3]) ?_
    refine K.o_ 3 rfl (.slice (some ⟨b_18, of_19, none⟩) sa.length cs) (fun w hS => ((hS.blk 0 rfl hg_3).cell rfl)) (hS.pick [3]) ?_
    refine K.p 4 rfl (K.iv ((j : Nat) : Int)) (hS.pick [3]) ?_
    refine K.m 5 rfl (fun w hS => K.QR.ix (of_19 + j * 1) 1 rfl rfl rfl Try.underlying27 (by kernel_rfl) (by omega) (by first | (simp; done) | omega | (simp; omega))) (hS.pick [3]) ?_
    refine K.o_ 6 rfl (.int .u32 (sa.getD j 0)) (fun w hS => ((x2.no hS.chg).ld j (by omega) 0 _ rfl)) (hS.pick [3]) ?_
    refine K.b 7 rfl (.pointer (some ⟨r_4, 1, none⟩)) (hS.pick [3]) ?_
    refine K.c 8 rfl (K.QR.ld1 (v := .int .u32 key) rfl rfl (by kernel_rfl) ((hS.blk 2 rfl hg_6).cell rfl)) (hS.pick [3]) ?_
    by_cases h_20 : (sa.getD j 0 : Int) = (key : Int)
    ·
     refine K.c 9 rfl (K.QR.nice (v := .bool ((sa.getD j 0 : Int) == (key : Int))) (by kernel_rfl) (congrArg Value.bool (beq_iff_eq.2 h_20))) (hS.pick [3]) ?_
     refine K.b 10 rfl (.bool true) (hS.pick [3]) ?_
     refine K.b 11 rfl (.bool true) (hS.pick [3]) ?_
     refine K.DW.done (by kernel_rfl) ?_
     refine K.blk_normal ?_
     refine K.t (K.g (K.q [K.iv ((j : Nat) : Int)] ?_))
     refine K.a (K.QR.n64 ((((j : Nat) : Int) : Int) + (1 : Int)) ((j + 1 : Nat) : Int) (by kernel_rfl) (by omega)) ?_
     refine K.q [K.iv ((j + 1 : Nat) : Int)] (K.z (K.t ?_))
     refine ⟨_, ?_, j + 1, true, rfl, ⟨by rfl, by rfl, by rfl, by rfl, by rfl, by rfl, by rfl, by rfl, by rfl, trivial⟩, (by omega), ((anyT_next (d := 0) hf (by omega)).trans (any_y (by assumption))), hS.pick [0, 1, 2, 3, 4]⟩
     omega
    ·
     refine K.c 9 rfl (K.QR.nice (v := .bool ((sa.getD j 0 : Int) == (key : Int))) (by kernel_rfl) (congrArg Value.bool (beq_eq_false_iff_ne.2 h_20))) (hS.pick [3]) ?_
     refine K.b 10 rfl (.bool false) (hS.pick [3]) ?_
     refine K.b 11 rfl (.bool false) (hS.pick [3]) ?_
     refine K.DW.done (by kernel_rfl) ?_
     refine K.blk_normal ?_
     refine K.t (K.g (K.q [K.iv ((j : Nat) : Int)] ?_))
     refine K.a (K.QR.n64 ((((j : Nat) : Int) : Int) + (1 : Int)) ((j + 1 : Nat) : Int) (by kernel_rfl) (by omega)) ?_
     refine K.q [K.iv ((j + 1 : Nat) : Int)] (K.z (K.t ?_))
     refine ⟨_, ?_, j + 1, false, rfl, ⟨by rfl, by rfl, by rfl, by rfl, by rfl, by rfl, by rfl, by rfl, by rfl, trivial⟩, (by omega), ((anyT_next (d := 0) hf (by omega)).trans (any_n (by assumption))), hS.pick [0, 1, 2, 3, 4]⟩
     omega
   ·
    refine K.x ((((j : Nat) : Int) : Int) < (((sa.length : Nat) : Int) : Int)) h_17 ?_
    refine K.q [.bool false] (K.z (K.t (K.f ?_)))
    refine K.KW.exit ?_
    refine K.thn_exit ?_
    refine K.thn_exit ?_
    refine K.blk_hit ?_
    refine K.t (K.s (K.g (K.q [.int .u32 0] (K.z (K.t (K.s (K.s (K.g (K.q [K.iv 0] (K.z (K.t ?_)))))))))))
    refine K.KW.block ?_
    refine K.KW.unr 0 ?_
    refine K.Unr.zero ?_
    refine K.s (K.s (K.g (K.q [K.pa r_4] ?_)))
    refine K.d (K.iv 3) ((hS.blk 2 rfl hg_6).cell rfl) ?_
    refine K.q [.bool false, .bool false] (K.n_ (K.n_ (K.n_ (K.q [.bool false, .bool false] (K.n_ (K.n_ (K.n_ (K.n_ (K.n_ (K.q [.bool false] (K.z (K.t (K.f ?_)))))))))))))
    refine K.KW.exit ?_
    refine K.thn_exit ?_
    refine K.thn_exit ?_
    refine K.blk_hit ?_
    refine K.t (K.s (K.s (K.g (K.q [K.pa r_4] ?_))))
    refine K.d (K.iv 3) ((hS.blk 2 rfl hg_6).cell rfl) ?_
    refine K.q [.bool false, .bool false, K.pa r_4] ?_
    refine K.d (K.iv 3) ((hS.blk 2 rfl hg_6).cell rfl) ?_
    refine K.q [.bool false, .bool false] (K.z (K.t (K.f (K.k (K.t (K.s (K.s (K.g (K.q [.bool false, .bool false] (K.n_ (K.n_ (K.n_ (K.q [.bool false, .bool false] (K.n_ ?_))))))))))))))
    refine K.n_ (K.n_ (K.q [.bool false] (K.z (K.t (K.f (K.k (K.t (K.s (K.s (K.g (K.q [.bool false, .bool true, .bool true, K.pa r_4] ?_)))))))))))
    refine K.d (K.iv 3) ((hS.blk 2 rfl hg_6).cell rfl) ?_
    refine K.q [.bool false, .bool false, .bool false] (K.n_ (K.n_ (K.n_ (K.q [.bool false] (K.z (K.t (K.f (K.k (K.t (K.s (K.s (K.g (K.q [K.pa r_4] ?_)))))))))))))
    refine K.d (K.iv 3) ((hS.blk 2 rfl hg_6).cell rfl) ?_
    refine K.q [.bool true] (K.z (K.t (K.h (K.s (K.g (K.q [.pointer (some ⟨r_1, 1, none⟩)] ?_))))))
    refine K.d (.slice s sa.length cs) ((hS.blk 3 rfl hg_3).cell rfl) ?_
    refine K.q [.pointer (some ⟨r_4, 1, none⟩)] ?_
    refine K.d (.int .u32 key) ((hS.blk 2 rfl hg_6).cell rfl) ?_
    refine K.q [K.pa r_4] ?_
    refine K.d (K.iv 3) ((hS.blk 2 rfl hg_6).cell rfl) ?_
    refine K.q [.bool true] ?_
    refine K.l (K.OW.gcall hS [55] [0, 1, 2, 3, 4] [.slice s sa.length cs, .int .u32 key, .bool true] (keysT_ok _ _ _ sa key (by omega) _ (fun w h => x2.no h.chg)) ?_)
    clear hS; rintro _ _ w ⟨r_21, c_22, l_23, rfl, rfl, o_24⟩ hS
    replace hS : K.Sat w0 [l_23, g_11, g_8, g_5, g_2, fr] w := hS.of (by simp [K.pick, K.nth])
    refine K.q [.pointer (some ⟨r_1, 1, none⟩)] ?_
    refine K.l (K.OW.gst 4 [.slice r_21 ((keysR idI key key true sa).length) c_22] _ hS hg_3 ?_)
    clear hS; intro w g_25 hg_26 hS
    replace hS : K.Sat w0 [l_23, g_11, g_8, g_5, g_25, fr] w := hS
    refine K.z (K.t (K.s (K.g ?_)))
    refine K.a (K.QR.ldN [.slice q qa.length cq, .slice r_21 ((keysR idI key key true sa).length) c_22, .slice m ma.length cm] rfl rfl (by kernel_rfl) (by kernel_rfl) (K.cells (K.cl ((hS.blk 4 rfl hg_26).cell rfl) (K.cl ((hS.blk 4 rfl hg_26).cell rfl) (K.cl ((hS.blk 4 rfl hg_26).cell rfl) K.cl0))))) ?_
    refine K.a (K.QR.bd [(0, K.iv 1)] [K.iv 1, .int .u32 0] rfl rfl (by kernel_rfl)) ?_
    refine K.l (K.OW.gst 2 [.slice q qa.length cq, .slice r_21 ((keysR idI key key true sa).length) c_22, .slice m ma.length cm] _ hS hg_9 ?_)
    clear hS; intro w g_27 hg_28 hS
    replace hS : K.Sat w0 [l_23, g_11, g_27, g_5, g_25, fr] w := hS
    refine K.l (K.OW.gst 1 [K.iv 1, .int .u32 0] _ hS hg_12 ?_)
    clear hS; intro w g_29 hg_30 hS
    replace hS : K.Sat w0 [l_23, g_29, g_27, g_5, g_25, fr] w := hS
    refine K.z (K.t (K.r (K.u ?_)))
    have hany : anyT idI key sa = false := by have h := hf; rw [List.take_of_length_le (by omega)] at h; exact h
    have hA : applyT ⟨qa, sa, ma⟩ 3 key val = (⟨qa, (keysR idI key key true sa), ma⟩, 1, 0) := by rw [apS hr1 (by decide), hany]; rfl
    rw [hA]
    refine ⟨.inr rfl, rfl, (.tuple #[.agg #[.slice q qa.length cq, .slice r_21 ((keysR idI key key true sa).length) c_22, .slice m ma.length cm], .agg #[K.iv 1, .int .u32 0]]), K.resAt (rs := [.cell 4 30, .cell 5 49]) [.agg #[.slice q qa.length cq, .slice r_21 ((keysR idI key key true sa).length) c_22, .slice m ma.length cm], .agg #[K.iv 1, .int .u32 0]] rfl ⟨⟨_, rfl, K.lvN [.slice q qa.length cq, .slice r_21 ((keysR idI key key true sa).length) c_22, .slice m ma.length cm] (by kernel_rfl) (by kernel_rfl) (K.cells (K.cl ((hS.blk 2 rfl hg_28).cell rfl) (K.cl ((hS.blk 2 rfl hg_28).cell rfl) (K.cl ((hS.blk 2 rfl hg_28).cell rfl) K.cl0))))⟩, ⟨_, rfl, K.lvN [K.iv 1, .int .u32 0] (by kernel_rfl) (by kernel_rfl) (K.cells (K.cl ((hS.blk 1 rfl hg_30).cell rfl) (K.cl ((hS.blk 1 rfl hg_30).cell rfl) K.cl0)))⟩, trivial⟩, [l_23], ?_, hS.pick [0, 5]⟩
    exact ⟨_, rfl, .inr (.inl ⟨_, _, _, rfl, o_24, rfl, rfl, rfl⟩)⟩
  ·
   refine K.s (K.s (K.g (K.q [K.pa r_4] ?_)))
   refine K.d (K.iv 3) ((hS.blk 2 rfl hg_6).cell rfl) ?_
   refine K.q [.bool true, .bool true, K.pa r_4] ?_
   refine K.d (K.iv 3) ((hS.blk 2 rfl hg_6).cell rfl) ?_
   refine K.q [.bool true, .bool true, .bool true, K.iv ((j : Nat) : Int), .pointer (some ⟨r_1, 1, none⟩)] ?_
   refine K.d (.slice s sa.length cs) ((hS.blk 3 rfl hg_3).cell rfl) ?_
   refine K.a (K.QR.len (P := Try.prog) rfl rfl Try.underlying27) ?_
   by_cases h_31 : (((j : Nat) : Int) : Int) < (((sa.length : Nat) : Int) : Int)
   ·
    refine K.y ((((j : Nat) : Int) : Int) < (((sa.length : Nat) : Int) : Int)) h_31 ?_
    refine K.q [.bool true] (K.z (K.t (K.h (K.k (K.t (K.s ?_))))))
    refine K.KW.block ?_
    obtain ⟨b_32, of_33, rfl, _⟩ := x2.at_ (by omega)
    refine K.KW.gdrawn [] hS (by kernel_rfl) ?_
    clear hS; intro w hS
    refine K.b 0 rfl (.bool true) (hS.pick []) ?_
    refine K.b 1 rfl (.bool true) (hS.pick []) ?_
    refine K.w_ 2 rfl (hS.pick []) ?_
    refine K.w_ 3 rfl (hS.pick []) ?_
    refine K.w_ 4 rfl (hS.pick []) ?_
    refine K.w_ 5 rfl (hS.pick []) ?_
    refine K.w_ 6 rfl (hS.pick []) ?_
    refine K.w_ 7 rfl (hS.pick []) ?_
    refine K.w_ 8 rfl (hS.pick []) ?_
    refine K.w_ 9 rfl (hS.pick []) ?_
    refine K.b 10 rfl (.bool true) (hS.pick []) ?_
    refine K.b 11 rfl (.bool true) (hS.pick []) ?_
    refine K.DW.done (by kernel_rfl) ?_
    refine K.blk_normal ?_
    refine K.t (K.g (K.q [K.iv ((j : Nat) : Int)] ?_))
    refine K.a (K.QR.n64 ((((j : Nat) : Int) : Int) + (1 : Int)) ((j + 1 : Nat) : Int) (by kernel_rfl) (by omega)) ?_
    refine K.q [K.iv ((j + 1 : Nat) : Int)] (K.z (K.t ?_))
    refine ⟨_, ?_, j + 1, true, rfl, ⟨by rfl, by rfl, by rfl, by rfl, by rfl, by rfl, by rfl, by rfl, by rfl, trivial⟩, (by omega), ((anyT_next (d := 0) hf (by omega)).trans any_t), hS.pick [0, 1, 2, 3, 4]⟩
    omega
   ·
    refine K.x ((((j : Nat) : Int) : Int) < (((sa.length : Nat) : Int) : Int)) h_31 ?_
    refine K.q [.bool false] (K.z (K.t (K.f ?_)))
    refine K.KW.exit ?_
    refine K.thn_exit ?_
    refine K.thn_exit ?_
    refine K.blk_hit ?_
    refine K.t (K.s (K.g (K.q [.int .u32 0] (K.z (K.t (K.s (K.s (K.g (K.q [K.iv 0] (K.z (K.t ?_)))))))))))
    refine K.KW.block ?_
    refine K.KW.unr 0 ?_
    refine K.Unr.zero ?_
    refine K.s (K.s (K.g (K.q [K.pa r_4] ?_)))
    refine K.d (K.iv 3) ((hS.blk 2 rfl hg_6).cell rfl) ?_
    refine K.q [.bool false, .bool false] (K.n_ (K.n_ (K.n_ (K.q [.bool false, .bool false] (K.n_ (K.n_ (K.n_ (K.n_ (K.n_ (K.q [.bool false] (K.z (K.t (K.f ?_)))))))))))))
    refine K.KW.exit ?_
    refine K.thn_exit ?_
    refine K.thn_exit ?_
    refine K.blk_hit ?_
    refine K.t (K.s (K.s (K.g (K.q [K.pa r_4] ?_))))
    refine K.d (K.iv 3) ((hS.blk 2 rfl hg_6).cell rfl) ?_
    refine K.q [.bool false, .bool false, K.pa r_4] ?_
    refine K.d (K.iv 3) ((hS.blk 2 rfl hg_6).cell rfl) ?_
    refine K.q [.bool false, .bool false] (K.z (K.t (K.f (K.k (K.t (K.s (K.s (K.g (K.q [.bool true, .bool true, K.pa r_4] ?_)))))))))
    refine K.d (K.iv 3) ((hS.blk 2 rfl hg_6).cell rfl) ?_
    refine K.q [.bool true, .bool true, .bool true, K.pa r_4] ?_
    refine K.d (K.iv 3) ((hS.blk 2 rfl hg_6).cell rfl) ?_
    refine K.q [.bool true, .bool true] (K.z (K.t (K.h (K.s (K.g ?_)))))
    refine K.a (K.QR.ldN [.slice q qa.length cq, .slice s sa.length cs, .slice m ma.length cm] rfl rfl (by kernel_rfl) (by kernel_rfl) (K.cells (K.cl ((hS.blk 3 rfl hg_3).cell rfl) (K.cl ((hS.blk 3 rfl hg_3).cell rfl) (K.cl ((hS.blk 3 rfl hg_3).cell rfl) K.cl0))))) ?_
    refine K.q [.int .u32 0] ?_
    refine K.a (K.QR.bd [(0, K.iv 3), (1, .int .u32 0)] [K.iv 3, .int .u32 0] rfl rfl (by kernel_rfl)) ?_
    refine K.l (K.OW.gst 1 [.slice q qa.length cq, .slice s sa.length cs, .slice m ma.length cm] _ hS hg_9 ?_)
    clear hS; intro w g_34 hg_35 hS
    replace hS : K.Sat w0 [g_11, g_34, g_5, g_2, fr] w := hS
    refine K.l (K.OW.gst 0 [K.iv 3, .int .u32 0] _ hS hg_12 ?_)
    clear hS; intro w g_36 hg_37 hS
    replace hS : K.Sat w0 [g_36, g_34, g_5, g_2, fr] w := hS
    refine K.z (K.t (K.r (K.u ?_)))
    have hany : anyT idI key sa = true := by have h := hf; rw [List.take_of_length_le (by omega)] at h; exact h
    have hA : applyT ⟨qa, sa, ma⟩ 3 key val = (⟨qa, sa, ma⟩, 3, 0) := by rw [apS hr1 (by decide), hany]; rfl
    rw [hA]
    refine ⟨.inr rfl, rfl, (.tuple #[.agg #[.slice q qa.length cq, .slice s sa.length cs, .slice m ma.length cm], .agg #[K.iv 3, .int .u32 0]]), K.resAt (rs := [.cell 4 30, .cell 5 49]) [.agg #[.slice q qa.length cq, .slice s sa.length cs, .slice m ma.length cm], .agg #[K.iv 3, .int .u32 0]] rfl ⟨⟨_, rfl, K.lvN [.slice q qa.length cq, .slice s sa.length cs, .slice m ma.length cm] (by kernel_rfl) (by kernel_rfl) (K.cells (K.cl ((hS.blk 1 rfl hg_35).cell rfl) (K.cl ((hS.blk 1 rfl hg_35).cell rfl) (K.cl ((hS.blk 1 rfl hg_35).cell rfl) K.cl0))))⟩, ⟨_, rfl, K.lvN [K.iv 3, .int .u32 0] (by kernel_rfl) (by kernel_rfl) (K.cells (K.cl ((hS.blk 0 rfl hg_37).cell rfl) (K.cl ((hS.blk 0 rfl hg_37).cell rfl) K.cl0)))⟩, trivial⟩, [], ?_, hS.pick [4]⟩
    exact ⟨_, rfl, .inr (.inr (.inr (.inl ⟨rfl, rfl, rfl⟩)))⟩
set_option maxHeartbeats 1000000 in
set_option maxRecDepth 100000 in
theorem rapplyB4_ok (w0 : World) (q s m : Option Addr) (cq cs cm : Nat) (qa sa : List Int) (ma : List PairM) (key val : Int) (h1 : qa.length ≤ 1000000) (h2 : sa.length ≤ 1000000) (h3 : ma.length ≤ 1000000) (hr1 : rising sa) (hr2 : rising (keysP ma)) (hc : qa.length ≤ cq) (x1 : RU32 w0 q qa) (x2 : RU32 w0 s sa) (x3 : RPr w0 m ma) :
  K.GC Try.prog w0 31 #[.agg #[.slice q qa.length cq, .slice s sa.length cs, .slice m ma.length cm], .agg #[K.iv 4, .int .u32 key, .int .u32 val]] [] (ApB q s m cq cs cm qa sa ma (applyT ⟨qa, sa, ma⟩ 4 key val)) := by
 refine K.GC.mk (n := 192) Try.func31 rfl rfl [.agg #[.slice q qa.length cq, .slice s sa.length cs, .slice m ma.length cm], .agg #[K.iv 4, .int .u32 key, .int .u32 val]] rfl rfl ?_
 intro fr w hS
 replace hS : K.Sat w0 [fr] w := hS
 refine K.s (K.g ?_)
 refine K.l (K.OW.gnew 30 [.slice q qa.length cq, .slice s sa.length cs, .slice m ma.length cm] hS ?_)
 clear hS; intro w r_1 g_2 hg_3 hS
 refine K.l (K.OW.gnew 47 [K.iv 4, .int .u32 key, .int .u32 val] hS ?_)
 clear hS; intro w r_4 g_5 hg_6 hS
 refine K.l (K.OW.gnew 30 [.slice none 0 0, .slice none 0 0, .slice none 0 0] hS ?_)
 clear hS; intro w r_7 g_8 hg_9 hS
 refine K.l (K.OW.gnew 49 [K.iv 0, .int .u32 0] hS ?_)
 clear hS; intro w r_10 g_11 hg_12 hS
 refine K.z (K.t (K.s (K.s (K.g (K.q [K.pa r_4] ?_)))))
 refine K.d (K.iv 4) ((hS.blk 2 rfl hg_6).cell rfl) ?_
 refine K.q [.bool false] (K.z (K.t (K.f (K.k (K.t (K.s (K.s (K.g (K.q [K.pa r_4] ?_)))))))))
 refine K.d (K.iv 4) ((hS.blk 2 rfl hg_6).cell rfl) ?_
 refine K.q [.bool false, .bool false] (K.n_ (K.n_ (K.n_ (K.n_ (K.q [.bool false] (K.z (K.t (K.f (K.k (K.t (K.s (K.s (K.g (K.q [K.pa r_4] ?_))))))))))))))
 refine K.d (K.iv 4) ((hS.blk 2 rfl hg_6).cell rfl) ?_
 refine K.q [.bool false] (K.z (K.t (K.f (K.k (K.t (K.s (K.g (K.q [.bool false] (K.z (K.t (K.s (K.s (K.g (K.q [K.iv 0] ?_))))))))))))))
 refine K.z (K.t ?_)
 refine K.KW.block ?_
 refine K.KW.loop (fun m_ F_ w_ => ∃ (j : Nat) (f : Bool), m_ = sa.length - j ∧ K.Sl F_ [(0, .agg #[.slice q qa.length cq, .slice s sa.length cs, .slice m ma.length cm]), (1, .agg #[K.iv 4, .int .u32 key, .int .u32 val]), (2, K.pa r_1), (3, K.pa r_4), (4, K.pa r_7), (5, K.pa r_10), (9, .bool f), (10, K.iv ((j : Nat) : Int)), (192, undef)] ∧ j ≤ sa.length ∧ anyT idI key (sa.take j) = f ∧ K.Sat w0 [g_11, g_8, g_5, g_2, fr] w_) ((fun (j : Nat) (f : Bool) => sa.length - j) 0 false) ?_ ?_
 ·
  exact ⟨0, false, rfl, ⟨by rfl, by rfl, by rfl, by rfl, by rfl, by rfl, by rfl, by rfl, by rfl, trivial⟩, (by omega), (rfl), hS.pick [0, 1, 2, 3, 4]⟩
 ·
  clear hS
  intro m_13 F_14 w hI
  obtain ⟨j, f, rfl, sl_15, p_16, hf, hS⟩ := hI
  rw [← K.Sl.puts sl_15]; clear sl_15
  cases f
  ·
   refine K.s (K.s (K.g (K.q [K.pa r_4] ?_)))
   refine K.d (K.iv 4) ((hS.blk 2 rfl hg_6).cell rfl) ?_
   refine K.q [.bool true, .bool true, K.pa r_4] ?_
   refine K.d (K.iv 4) ((hS.blk 2 rfl hg_6).cell rfl) ?_
   refine K.q [.bool true, .bool true, .bool true, K.iv ((j : Nat) : Int), .pointer (some ⟨r_1, 1, none⟩)] ?_
   refine K.d (.slice s sa.length cs) ((hS.blk 3 rfl hg_3).cell rfl) ?_
   refine K.a (K.QR.len (P := Try.prog) rfl rfl Try.underlying27) ?_
   by_cases h_17 : (((j : Nat) : Int) : Int) < (((sa.length : Nat) : Int) : Int)
   ·
    refine K.y ((((j : Nat) : Int) : Int) < (((sa.length : Nat) : Int) : Int)) h_17 ?_
    refine K.q [.bool true] (K.z (K.t (K.h (K.k (K.t (K.s ?_))))))
    refine K.KW.block ?_
    obtain ⟨b_18, of_19, rfl, _⟩ := x2.at_ (by omega)
    refine K.KW.gdrawn [3] hS (by kernel_rfl) ?_
    clear hS; intro w hS
    refine K.b 0 rfl (.bool false) (hS.pick [3]) ?_
    refine K.b 1 rfl (.bool false) (hS.pick [3]) ?_
    refine K.p 2 rfl (.pointer (some ⟨r_1, 1, none⟩)) (hS.pick [3]) ?_
    refine K.o_ 3 rfl (.slice (some ⟨b_18, of_19, none⟩) sa.length cs) (fun w hS => ((hS.blk 0 rfl hg_3).cell rfl)) (hS.pick [3]) ?_
    refine K.p 4 rfl (K.iv ((j : Nat) : Int)) (hS.pick [3]) ?_
    refine K.m 5 rfl (fun w hS => K.QR.ix (of_19 + j * 1) 1 rfl rfl rfl Try.underlying27 (by kernel_rfl) (by omega) (by first | (simp; done) | omega | (simp; omega))) (hS.pick [3]) ?_
    refine K.o_ 6 rfl (.int .u32 (sa.getD j 0)) (fun w hS => ((x2.no hS.chg).ld j (by omega) 0 _ rfl)) (hS.pick [3]) ?_
    refine K.b 7 rfl (.pointer (some ⟨r_4, 1, none⟩)) (hS.pick [3]) ?_
    refine K.c 8 rfl (K.QR.ld1 (v := .int .u32 key) rfl rfl (by kernel_rfl) ((hS.blk 2 rfl hg_6).cell rfl)) (hS.pick [3]) ?_
    by_cases h_20 : (sa.getD j 0 : Int) = (key : Int)
    ·
     refine K.c 9 rfl (K.QR.nice (v := .bool ((sa.getD j 0 : Int) == (key : Int))) (by kernel_rfl) (congrArg Value.bool (beq_iff_eq.2 h_20))) (hS.pick [3]) ?_
     refine K.b 10 rfl (.bool true) (hS.pick [3]) ?_
     refine K.b 11 rfl (.bool true) (hS.pick [3]) ?_
     refine K.DW.done (by kernel_rfl) ?_
     refine K.blk_normal ?_
     refine K.t (K.g (K.q [K.iv ((j : Nat) : Int)] ?_))
     refine K.a (K.QR.n64 ((((j : Nat) : Int) : Int) + (1 : Int)) ((j + 1 : Nat) : Int) (by kernel_rfl) (by omega)) ?_
     refine K.q [K.iv ((j + 1 : Nat) : Int)] (K.z (K.t ?_))
     refine ⟨_, ?_, j + 1, true, rfl, ⟨by rfl, by rfl, by rfl, by rfl, by rfl, by rfl, by rfl, by rfl, by rfl, trivial⟩, (by omega), ((anyT_next (d := 0) hf (by omega)).trans (any_y (by assumption))), hS.pick [0, 1, 2, 3, 4]⟩
     omega
    ·
     refine K.c 9 rfl (K.QR.nice (v := .bool ((sa.getD j 0 : Int) == (key : Int))) (by kernel_rfl) (congrArg Value.bool (beq_eq_false_iff_ne.2 h_20))) (hS.pick [3]) ?_
     refine K.b 10 rfl (.bool false) (hS.pick [3]) ?_
     refine K.b 11 rfl (.bool false) (hS.pick [3]) ?_
     refine K.DW.done (by kernel_rfl) ?_
     refine K.blk_normal ?_
     refine K.t (K.g (K.q [K.iv ((j : Nat) : Int)] ?_))
     refine K.a (K.QR.n64 ((((j : Nat) : Int) : Int) + (1 : Int)) ((j + 1 : Nat) : Int) (by kernel_rfl) (by omega)) ?_
     refine K.q [K.iv ((j + 1 : Nat) : Int)] (K.z (K.t ?_))
     refine ⟨_, ?_, j + 1, false, rfl, ⟨by rfl, by rfl, by rfl, by rfl, by rfl, by rfl, by rfl, by rfl, by rfl, trivial⟩, (by omega), ((anyT_next (d := 0) hf (by omega)).trans (any_n (by assumption))), hS.pick [0, 1, 2, 3, 4]⟩
     omega
   ·
    refine K.x ((((j : Nat) : Int) : Int) < (((sa.length : Nat) : Int) : Int)) h_17 ?_
    refine K.q [.bool false] (K.z (K.t (K.f ?_)))
    refine K.KW.exit ?_
    refine K.thn_exit ?_
    refine K.thn_exit ?_
    refine K.blk_hit ?_
    refine K.t (K.s (K.g (K.q [.int .u32 0] (K.z (K.t (K.s (K.s (K.g (K.q [K.iv 0] (K.z (K.t ?_)))))))))))
    refine K.KW.block ?_
    refine K.KW.unr 0 ?_
    refine K.Unr.zero ?_
    refine K.s (K.s (K.g (K.q [K.pa r_4] ?_)))
    refine K.d (K.iv 4) ((hS.blk 2 rfl hg_6).cell rfl) ?_
    refine K.q [.bool false, .bool false] (K.n_ (K.n_ (K.n_ (K.q [.bool false, .bool false] (K.n_ (K.n_ (K.n_ (K.n_ (K.n_ (K.q [.bool false] (K.z (K.t (K.f ?_)))))))))))))
    refine K.KW.exit ?_
    refine K.thn_exit ?_
    refine K.thn_exit ?_
    refine K.blk_hit ?_
    refine K.t (K.s (K.s (K.g (K.q [K.pa r_4] ?_))))
    refine K.d (K.iv 4) ((hS.blk 2 rfl hg_6).cell rfl) ?_
    refine K.q [.bool false, .bool false, K.pa r_4] ?_
    refine K.d (K.iv 4) ((hS.blk 2 rfl hg_6).cell rfl) ?_
    refine K.q [.bool false, .bool false] (K.z (K.t (K.f (K.k (K.t (K.s (K.s (K.g (K.q [.bool false, .bool false] (K.n_ (K.n_ (K.n_ (K.q [.bool false, .bool false] (K.n_ ?_))))))))))))))
    refine K.n_ (K.n_ (K.q [.bool false] (K.z (K.t (K.f (K.k (K.t (K.s (K.s (K.g (K.q [.bool false, .bool true, .bool true, K.pa r_4] ?_)))))))))))
    refine K.d (K.iv 4) ((hS.blk 2 rfl hg_6).cell rfl) ?_
    refine K.q [.bool true, .bool true, .bool true, K.pa r_4] ?_
    refine K.d (K.iv 4) ((hS.blk 2 rfl hg_6).cell rfl) ?_
    refine K.q [.bool true, .bool true] (K.z (K.t (K.h (K.s (K.g ?_)))))
    refine K.a (K.QR.ldN [.slice q qa.length cq, .slice s sa.length cs, .slice m ma.length cm] rfl rfl (by kernel_rfl) (by kernel_rfl) (K.cells (K.cl ((hS.blk 3 rfl hg_3).cell rfl) (K.cl ((hS.blk 3 rfl hg_3).cell rfl) (K.cl ((hS.blk 3 rfl hg_3).cell rfl) K.cl0))))) ?_
    refine K.a (K.QR.bd [(0, K.iv 4)] [K.iv 4, .int .u32 0] rfl rfl (by kernel_rfl)) ?_
    refine K.l (K.OW.gst 1 [.slice q qa.length cq, .slice s sa.length cs, .slice m ma.length cm] _ hS hg_9 ?_)
    clear hS; intro w g_21 hg_22 hS
    replace hS : K.Sat w0 [g_11, g_21, g_5, g_2, fr] w := hS
    refine K.l (K.OW.gst 0 [K.iv 4, .int .u32 0] _ hS hg_12 ?_)
    clear hS; intro w g_23 hg_24 hS
    replace hS : K.Sat w0 [g_23, g_21, g_5, g_2, fr] w := hS
    refine K.z (K.t (K.r (K.u ?_)))
    have hany : anyT idI key sa = false := by have h := hf; rw [List.take_of_length_le (by omega)] at h; exact h
    have hA : applyT ⟨qa, sa, ma⟩ 4 key val = (⟨qa, sa, ma⟩, 4, 0) := by rw [apS hr1 (by decide), hany]; rfl
    rw [hA]
    refine ⟨.inr rfl, rfl, (.tuple #[.agg #[.slice q qa.length cq, .slice s sa.length cs, .slice m ma.length cm], .agg #[K.iv 4, .int .u32 0]]), K.resAt (rs := [.cell 4 30, .cell 5 49]) [.agg #[.slice q qa.length cq, .slice s sa.length cs, .slice m ma.length cm], .agg #[K.iv 4, .int .u32 0]] rfl ⟨⟨_, rfl, K.lvN [.slice q qa.length cq, .slice s sa.length cs, .slice m ma.length cm] (by kernel_rfl) (by kernel_rfl) (K.cells (K.cl ((hS.blk 1 rfl hg_22).cell rfl) (K.cl ((hS.blk 1 rfl hg_22).cell rfl) (K.cl ((hS.blk 1 rfl hg_22).cell rfl) K.cl0))))⟩, ⟨_, rfl, K.lvN [K.iv 4, .int .u32 0] (by kernel_rfl) (by kernel_rfl) (K.cells (K.cl ((hS.blk 0 rfl hg_24).cell rfl) (K.cl ((hS.blk 0 rfl hg_24).cell rfl) K.cl0)))⟩, trivial⟩, [], ?_, hS.pick [4]⟩
    exact ⟨_, rfl, .inr (.inr (.inr (.inl ⟨rfl, rfl, rfl⟩)))⟩
  ·
   refine K.s (K.s (K.g (K.q [K.pa r_4] ?_)))
   refine K.d (K.iv 4) ((hS.blk 2 rfl hg_6).cell rfl) ?_
   refine K.q [.bool true, .bool true, K.pa r_4] ?_
   refine K.d (K.iv 4) ((hS.blk 2 rfl hg_6).cell rfl) ?_
   refine K.q [.bool true, .bool true, .bool true, K.iv ((j : Nat) : Int), .pointer (some ⟨r_1, 1, none⟩)] ?_
   refine K.d (.slice s sa.length cs) ((hS.blk 3 rfl hg_3).cell rfl) ?_
   refine K.a (K.QR.len (P := Try.prog) rfl rfl Try.underlying27) ?_
   by_cases h_25 : (((j : Nat) : Int) : Int) < (((sa.length : Nat) : Int) : Int)
   ·
    refine K.y ((((j : Nat) : Int) : Int) < (((sa.length : Nat) : Int) : Int)) h_25 ?_
    refine K.q [.bool true] (K.z (K.t (K.h (K.k (K.t (K.s ?_))))))
    refine K.KW.block ?_
    obtain ⟨b_26, of_27, rfl, _⟩ := x2.at_ (by omega)
    refine K.KW.gdrawn [] hS (by kernel_rfl) ?_
    clear hS; intro w hS
    refine K.b 0 rfl (.bool true) (hS.pick []) ?_
    refine K.b 1 rfl (.bool true) (hS.pick []) ?_
    refine K.w_ 2 rfl (hS.pick []) ?_
    refine K.w_ 3 rfl (hS.pick []) ?_
    refine K.w_ 4 rfl (hS.pick []) ?_
    refine K.w_ 5 rfl (hS.pick []) ?_
    refine K.w_ 6 rfl (hS.pick []) ?_
    refine K.w_ 7 rfl (hS.pick []) ?_
    refine K.w_ 8 rfl (hS.pick []) ?_
    refine K.w_ 9 rfl (hS.pick []) ?_
    refine K.b 10 rfl (.bool true) (hS.pick []) ?_
    refine K.b 11 rfl (.bool true) (hS.pick []) ?_
    refine K.DW.done (by kernel_rfl) ?_
    refine K.blk_normal ?_
    refine K.t (K.g (K.q [K.iv ((j : Nat) : Int)] ?_))
    refine K.a (K.QR.n64 ((((j : Nat) : Int) : Int) + (1 : Int)) ((j + 1 : Nat) : Int) (by kernel_rfl) (by omega)) ?_
    refine K.q [K.iv ((j + 1 : Nat) : Int)] (K.z (K.t ?_))
    refine ⟨_, ?_, j + 1, true, rfl, ⟨by rfl, by rfl, by rfl, by rfl, by rfl, by rfl, by rfl, by rfl, by rfl, trivial⟩, (by omega), ((anyT_next (d := 0) hf (by omega)).trans any_t), hS.pick [0, 1, 2, 3, 4]⟩
    omega
   ·
    refine K.x ((((j : Nat) : Int) : Int) < (((sa.length : Nat) : Int) : Int)) h_25 ?_
    refine K.q [.bool false] (K.z (K.t (K.f ?_)))
    refine K.KW.exit ?_
    refine K.thn_exit ?_
    refine K.thn_exit ?_
    refine K.blk_hit ?_
    refine K.t (K.s (K.g (K.q [.int .u32 0] (K.z (K.t (K.s (K.s (K.g (K.q [K.iv 0] (K.z (K.t ?_)))))))))))
    refine K.KW.block ?_
    refine K.KW.unr 0 ?_
    refine K.Unr.zero ?_
    refine K.s (K.s (K.g (K.q [K.pa r_4] ?_)))
    refine K.d (K.iv 4) ((hS.blk 2 rfl hg_6).cell rfl) ?_
    refine K.q [.bool false, .bool false] (K.n_ (K.n_ (K.n_ (K.q [.bool false, .bool false] (K.n_ (K.n_ (K.n_ (K.n_ (K.n_ (K.q [.bool false] (K.z (K.t (K.f ?_)))))))))))))
    refine K.KW.exit ?_
    refine K.thn_exit ?_
    refine K.thn_exit ?_
    refine K.blk_hit ?_
    refine K.t (K.s (K.s (K.g (K.q [K.pa r_4] ?_))))
    refine K.d (K.iv 4) ((hS.blk 2 rfl hg_6).cell rfl) ?_
    refine K.q [.bool false, .bool false, K.pa r_4] ?_
    refine K.d (K.iv 4) ((hS.blk 2 rfl hg_6).cell rfl) ?_
    refine K.q [.bool false, .bool false] (K.z (K.t (K.f (K.k (K.t (K.s (K.s (K.g (K.q [.bool true, .bool true, K.pa r_4] ?_)))))))))
    refine K.d (K.iv 4) ((hS.blk 2 rfl hg_6).cell rfl) ?_
    refine K.q [.bool false, .bool false, .bool false] (K.n_ (K.n_ (K.n_ (K.q [.bool false] (K.z (K.t (K.f (K.k (K.t (K.s (K.s (K.g (K.q [.bool true, .bool false, .bool false] (K.n_ ?_))))))))))))))
    refine K.n_ (K.n_ (K.q [.bool false, .bool false] (K.n_ (K.n_ (K.n_ (K.q [.bool false] (K.z (K.t (K.f (K.k (K.t (K.s (K.s (K.g ?_))))))))))))))
    refine K.q [K.pa r_4] ?_
    refine K.d (K.iv 4) ((hS.blk 2 rfl hg_6).cell rfl) ?_
    refine K.q [.bool true] (K.z (K.t (K.h (K.s (K.g (K.q [.pointer (some ⟨r_1, 1, none⟩)] ?_))))))
    refine K.d (.slice s sa.length cs) ((hS.blk 3 rfl hg_3).cell rfl) ?_
    refine K.q [.pointer (some ⟨r_4, 1, none⟩)] ?_
    refine K.d (.int .u32 key) ((hS.blk 2 rfl hg_6).cell rfl) ?_
    refine K.q [K.pa r_4] ?_
    refine K.d (K.iv 4) ((hS.blk 2 rfl hg_6).cell rfl) ?_
    refine K.q [.bool false] ?_
    refine K.l (K.OW.gcall hS [55] [0, 1, 2, 3, 4] [.slice s sa.length cs, .int .u32 key, .bool false] (keysF_ok _ _ _ sa key (by omega) _ (fun w h => x2.no h.chg)) ?_)
    clear hS; rintro _ _ w ⟨r_28, c_29, l_30, rfl, rfl, o_31⟩ hS
    replace hS : K.Sat w0 [l_30, g_11, g_8, g_5, g_2, fr] w := hS.of (by simp [K.pick, K.nth])
    refine K.q [.pointer (some ⟨r_1, 1, none⟩)] ?_
    refine K.l (K.OW.gst 4 [.slice r_28 ((keysR idI key key false sa).length) c_29] _ hS hg_3 ?_)
    clear hS; intro w g_32 hg_33 hS
    replace hS : K.Sat w0 [l_30, g_11, g_8, g_5, g_32, fr] w := hS
    refine K.z (K.t (K.s (K.g ?_)))
    refine K.a (K.QR.ldN [.slice q qa.length cq, .slice r_28 ((keysR idI key key false sa).length) c_29, .slice m ma.length cm] rfl rfl (by kernel_rfl) (by kernel_rfl) (K.cells (K.cl ((hS.blk 4 rfl hg_33).cell rfl) (K.cl ((hS.blk 4 rfl hg_33).cell rfl) (K.cl ((hS.blk 4 rfl hg_33).cell rfl) K.cl0))))) ?_
    refine K.a (K.QR.bd [(0, K.iv 1)] [K.iv 1, .int .u32 0] rfl rfl (by kernel_rfl)) ?_
    refine K.l (K.OW.gst 2 [.slice q qa.length cq, .slice r_28 ((keysR idI key key false sa).length) c_29, .slice m ma.length cm] _ hS hg_9 ?_)
    clear hS; intro w g_34 hg_35 hS
    replace hS : K.Sat w0 [l_30, g_11, g_34, g_5, g_32, fr] w := hS
    refine K.l (K.OW.gst 1 [K.iv 1, .int .u32 0] _ hS hg_12 ?_)
    clear hS; intro w g_36 hg_37 hS
    replace hS : K.Sat w0 [l_30, g_36, g_34, g_5, g_32, fr] w := hS
    refine K.z (K.t (K.r (K.u ?_)))
    have hany : anyT idI key sa = true := by have h := hf; rw [List.take_of_length_le (by omega)] at h; exact h
    have hA : applyT ⟨qa, sa, ma⟩ 4 key val = (⟨qa, (keysR idI key key false sa), ma⟩, 1, 0) := by rw [apS hr1 (by decide), hany]; rfl
    rw [hA]
    refine ⟨.inr rfl, rfl, (.tuple #[.agg #[.slice q qa.length cq, .slice r_28 ((keysR idI key key false sa).length) c_29, .slice m ma.length cm], .agg #[K.iv 1, .int .u32 0]]), K.resAt (rs := [.cell 4 30, .cell 5 49]) [.agg #[.slice q qa.length cq, .slice r_28 ((keysR idI key key false sa).length) c_29, .slice m ma.length cm], .agg #[K.iv 1, .int .u32 0]] rfl ⟨⟨_, rfl, K.lvN [.slice q qa.length cq, .slice r_28 ((keysR idI key key false sa).length) c_29, .slice m ma.length cm] (by kernel_rfl) (by kernel_rfl) (K.cells (K.cl ((hS.blk 2 rfl hg_35).cell rfl) (K.cl ((hS.blk 2 rfl hg_35).cell rfl) (K.cl ((hS.blk 2 rfl hg_35).cell rfl) K.cl0))))⟩, ⟨_, rfl, K.lvN [K.iv 1, .int .u32 0] (by kernel_rfl) (by kernel_rfl) (K.cells (K.cl ((hS.blk 1 rfl hg_37).cell rfl) (K.cl ((hS.blk 1 rfl hg_37).cell rfl) K.cl0)))⟩, trivial⟩, [l_30], ?_, hS.pick [0, 5]⟩
    exact ⟨_, rfl, .inr (.inl ⟨_, _, _, rfl, o_31, rfl, rfl, rfl⟩)⟩
set_option maxHeartbeats 1000000 in
set_option maxRecDepth 100000 in
theorem rapplyB5_ok (w0 : World) (q s m : Option Addr) (cq cs cm : Nat) (qa sa : List Int) (ma : List PairM) (key val : Int) (h1 : qa.length ≤ 1000000) (h2 : sa.length ≤ 1000000) (h3 : ma.length ≤ 1000000) (hr1 : rising sa) (hr2 : rising (keysP ma)) (hc : qa.length ≤ cq) (x1 : RU32 w0 q qa) (x2 : RU32 w0 s sa) (x3 : RPr w0 m ma) :
  K.GC Try.prog w0 31 #[.agg #[.slice q qa.length cq, .slice s sa.length cs, .slice m ma.length cm], .agg #[K.iv 5, .int .u32 key, .int .u32 val]] [] (ApB q s m cq cs cm qa sa ma (applyT ⟨qa, sa, ma⟩ 5 key val)) := by
 refine K.GC.mk (n := 192) Try.func31 rfl rfl [.agg #[.slice q qa.length cq, .slice s sa.length cs, .slice m ma.length cm], .agg #[K.iv 5, .int .u32 key, .int .u32 val]] rfl rfl ?_
 intro fr w hS
 replace hS : K.Sat w0 [fr] w := hS
 refine K.s (K.g ?_)
 refine K.l (K.OW.gnew 30 [.slice q qa.length cq, .slice s sa.length cs, .slice m ma.length cm] hS ?_)
 clear hS; intro w r_1 g_2 hg_3 hS
 refine K.l (K.OW.gnew 47 [K.iv 5, .int .u32 key, .int .u32 val] hS ?_)
 clear hS; intro w r_4 g_5 hg_6 hS
 refine K.l (K.OW.gnew 30 [.slice none 0 0, .slice none 0 0, .slice none 0 0] hS ?_)
 clear hS; intro w r_7 g_8 hg_9 hS
 refine K.l (K.OW.gnew 49 [K.iv 0, .int .u32 0] hS ?_)
 clear hS; intro w r_10 g_11 hg_12 hS
 refine K.z (K.t (K.s (K.s (K.g (K.q [K.pa r_4] ?_)))))
 refine K.d (K.iv 5) ((hS.blk 2 rfl hg_6).cell rfl) ?_
 refine K.q [.bool false] (K.z (K.t (K.f (K.k (K.t (K.s (K.s (K.g (K.q [K.pa r_4] ?_)))))))))
 refine K.d (K.iv 5) ((hS.blk 2 rfl hg_6).cell rfl) ?_
 refine K.q [.bool false, .bool false] (K.n_ (K.n_ (K.n_ (K.n_ (K.q [.bool false] (K.z (K.t (K.f (K.k (K.t (K.s (K.s (K.g (K.q [K.pa r_4] ?_))))))))))))))
 refine K.d (K.iv 5) ((hS.blk 2 rfl hg_6).cell rfl) ?_
 refine K.q [.bool false] (K.z (K.t (K.f (K.k (K.t (K.s (K.g (K.q [.bool false] (K.z (K.t (K.s (K.s (K.g (K.q [K.iv 0] ?_))))))))))))))
 refine K.z (K.t ?_)
 refine K.KW.block ?_
 refine K.KW.loop (fun m_ F_ w_ => ∃ (j : Nat) (f : Bool), m_ = sa.length - j ∧ K.Sl F_ [(0, .agg #[.slice q qa.length cq, .slice s sa.length cs, .slice m ma.length cm]), (1, .agg #[K.iv 5, .int .u32 key, .int .u32 val]), (2, K.pa r_1), (3, K.pa r_4), (4, K.pa r_7), (5, K.pa r_10), (9, .bool f), (10, K.iv ((j : Nat) : Int)), (192, undef)] ∧ j ≤ sa.length ∧ anyT idI key (sa.take j) = f ∧ K.Sat w0 [g_11, g_8, g_5, g_2, fr] w_) ((fun (j : Nat) (f : Bool) => sa.length - j) 0 false) ?_ ?_
 ·
  exact ⟨0, false, rfl, ⟨by rfl, by rfl, by rfl, by rfl, by rfl, by rfl, by rfl, by rfl, by rfl, trivial⟩, (by omega), (rfl), hS.pick [0, 1, 2, 3, 4]⟩
 ·
  clear hS
  intro m_13 F_14 w hI
  obtain ⟨j, f, rfl, sl_15, p_16, hf, hS⟩ := hI
  rw [← K.Sl.puts sl_15]; clear sl_15
  cases f
  ·
   refine K.s (K.s (K.g (K.q [K.pa r_4] ?_)))
   refine K.d (K.iv 5) ((hS.blk 2 rfl hg_6).cell rfl) ?_
   refine K.q [.bool true, .bool true, K.pa r_4] ?_
   refine K.d (K.iv 5) ((hS.blk 2 rfl hg_6).cell rfl) ?_
   refine K.q [.bool true, .bool true, .bool true, K.iv ((j : Nat) : Int), .pointer (some ⟨r_1, 1, none⟩)] ?_
   refine K.d (.slice s sa.length cs) ((hS.blk 3 rfl hg_3).cell rfl) ?_
   refine K.a (K.QR.len (P := Try.prog) rfl rfl Try.underlying27) ?_
   by_cases h_17 : (((j : Nat) : Int) : Int) < (((sa.length : Nat) : Int) : Int)
   ·
    refine K.y ((((j : Nat) : Int) : Int) < (((sa.length : Nat) : Int) : Int)) h_17 ?_
    refine K.q [.bool true] (K.z (K.t (K.h (K.k (K.t (K.s ?_))))))
    refine K.KW.block ?_
    obtain ⟨b_18, of_19, rfl, _⟩ := x2.at_ (by omega)
    refine K.KW.gdrawn [3] hS (by kernel_rfl) ?_
    clear hS; intro w hS
    refine K.b 0 rfl (.bool false) (hS.pick [3]) ?_
    refine K.b 1 rfl (.bool false) (hS.pick [3]) ?_
    refine K.p 2 rfl (.pointer (some ⟨r_1, 1, none⟩)) (hS.pick [3]) ?_
    refine K.o_ 3 rfl (.slice (some ⟨b_18, of_19, none⟩) sa.length cs) (fun w hS => ((hS.blk 0 rfl hg_3).cell rfl)) (hS.pick [3]) ?_
    refine K.p 4 rfl (K.iv ((j : Nat) : Int)) (hS.pick [3]) ?_
    refine K.m 5 rfl (fun w hS => K.QR.ix (of_19 + j * 1) 1 rfl rfl rfl Try.underlying27 (by kernel_rfl) (by omega) (by first | (simp; done) | omega | (simp; omega))) (hS.pick [3]) ?_
    refine K.o_ 6 rfl (.int .u32 (sa.getD j 0)) (fun w hS => ((x2.no hS.chg).ld j (by omega) 0 _ rfl)) (hS.pick [3]) ?_
    refine K.b 7 rfl (.pointer (some ⟨r_4, 1, none⟩)) (hS.pick [3]) ?_
    refine K.c 8 rfl (K.QR.ld1 (v := .int .u32 key) rfl rfl (by kernel_rfl) ((hS.blk 2 rfl hg_6).cell rfl)) (hS.pick [3]) ?_
    by_cases h_20 : (sa.getD j 0 : Int) = (key : Int)
    ·
     refine K.c 9 rfl (K.QR.nice (v := .bool ((sa.getD j 0 : Int) == (key : Int))) (by kernel_rfl) (congrArg Value.bool (beq_iff_eq.2 h_20))) (hS.pick [3]) ?_
     refine K.b 10 rfl (.bool true) (hS.pick [3]) ?_
     refine K.b 11 rfl (.bool true) (hS.pick [3]) ?_
     refine K.DW.done (by kernel_rfl) ?_
     refine K.blk_normal ?_
     refine K.t (K.g (K.q [K.iv ((j : Nat) : Int)] ?_))
     refine K.a (K.QR.n64 ((((j : Nat) : Int) : Int) + (1 : Int)) ((j + 1 : Nat) : Int) (by kernel_rfl) (by omega)) ?_
     refine K.q [K.iv ((j + 1 : Nat) : Int)] (K.z (K.t ?_))
     refine ⟨_, ?_, j + 1, true, rfl, ⟨by rfl, by rfl, by rfl, by rfl, by rfl, by rfl, by rfl, by rfl, by rfl, trivial⟩, (by omega), ((anyT_next (d := 0) hf (by omega)).trans (any_y (by assumption))), hS.pick [0, 1, 2, 3, 4]⟩
     omega
    ·
     refine K.c 9 rfl (K.QR.nice (v := .bool ((sa.getD j 0 : Int) == (key : Int))) (by kernel_rfl) (congrArg Value.bool (beq_eq_false_iff_ne.2 h_20))) (hS.pick [3]) ?_
     refine K.b 10 rfl (.bool false) (hS.pick [3]) ?_
     refine K.b 11 rfl (.bool false) (hS.pick [3]) ?_
     refine K.DW.done (by kernel_rfl) ?_
     refine K.blk_normal ?_
     refine K.t (K.g (K.q [K.iv ((j : Nat) : Int)] ?_))
     refine K.a (K.QR.n64 ((((j : Nat) : Int) : Int) + (1 : Int)) ((j + 1 : Nat) : Int) (by kernel_rfl) (by omega)) ?_
     refine K.q [K.iv ((j + 1 : Nat) : Int)] (K.z (K.t ?_))
     refine ⟨_, ?_, j + 1, false, rfl, ⟨by rfl, by rfl, by rfl, by rfl, by rfl, by rfl, by rfl, by rfl, by rfl, trivial⟩, (by omega), ((anyT_next (d := 0) hf (by omega)).trans (any_n (by assumption))), hS.pick [0, 1, 2, 3, 4]⟩
     omega
   ·
    refine K.x ((((j : Nat) : Int) : Int) < (((sa.length : Nat) : Int) : Int)) h_17 ?_
    refine K.q [.bool false] (K.z (K.t (K.f ?_)))
    refine K.KW.exit ?_
    refine K.thn_exit ?_
    refine K.thn_exit ?_
    refine K.blk_hit ?_
    refine K.t (K.s (K.g (K.q [.int .u32 0] (K.z (K.t (K.s (K.s (K.g (K.q [K.iv 0] (K.z (K.t ?_)))))))))))
    refine K.KW.block ?_
    refine K.KW.unr 0 ?_
    refine K.Unr.zero ?_
    refine K.s (K.s (K.g (K.q [K.pa r_4] ?_)))
    refine K.d (K.iv 5) ((hS.blk 2 rfl hg_6).cell rfl) ?_
    refine K.q [.bool false, .bool false] (K.n_ (K.n_ (K.n_ (K.q [.bool false, .bool false] (K.n_ (K.n_ (K.n_ (K.n_ (K.n_ (K.q [.bool false] (K.z (K.t (K.f ?_)))))))))))))
    refine K.KW.exit ?_
    refine K.thn_exit ?_
    refine K.thn_exit ?_
    refine K.blk_hit ?_
    refine K.t (K.s (K.s (K.g (K.q [K.pa r_4] ?_))))
    refine K.d (K.iv 5) ((hS.blk 2 rfl hg_6).cell rfl) ?_
    refine K.q [.bool false, .bool false, K.pa r_4] ?_
    refine K.d (K.iv 5) ((hS.blk 2 rfl hg_6).cell rfl) ?_
    refine K.q [.bool false, .bool false] (K.z (K.t (K.f (K.k (K.t (K.s (K.s (K.g (K.q [.bool false, .bool false] (K.n_ (K.n_ (K.n_ (K.q [.bool false, .bool false] (K.n_ ?_))))))))))))))
    refine K.n_ (K.n_ (K.q [.bool false] (K.z (K.t (K.f (K.k (K.t (K.s (K.s (K.g (K.q [.bool false, .bool true, .bool true, K.pa r_4] ?_)))))))))))
    refine K.d (K.iv 5) ((hS.blk 2 rfl hg_6).cell rfl) ?_
    refine K.q [.bool true, .bool true, .bool true, K.pa r_4] ?_
    refine K.d (K.iv 5) ((hS.blk 2 rfl hg_6).cell rfl) ?_
    refine K.q [.bool true, .bool true] (K.z (K.t (K.h (K.s (K.g ?_)))))
    refine K.a (K.QR.ldN [.slice q qa.length cq, .slice s sa.length cs, .slice m ma.length cm] rfl rfl (by kernel_rfl) (by kernel_rfl) (K.cells (K.cl ((hS.blk 3 rfl hg_3).cell rfl) (K.cl ((hS.blk 3 rfl hg_3).cell rfl) (K.cl ((hS.blk 3 rfl hg_3).cell rfl) K.cl0))))) ?_
    refine K.a (K.QR.bd [(0, K.iv 4)] [K.iv 4, .int .u32 0] rfl rfl (by kernel_rfl)) ?_
    refine K.l (K.OW.gst 1 [.slice q qa.length cq, .slice s sa.length cs, .slice m ma.length cm] _ hS hg_9 ?_)
    clear hS; intro w g_21 hg_22 hS
    replace hS : K.Sat w0 [g_11, g_21, g_5, g_2, fr] w := hS
    refine K.l (K.OW.gst 0 [K.iv 4, .int .u32 0] _ hS hg_12 ?_)
    clear hS; intro w g_23 hg_24 hS
    replace hS : K.Sat w0 [g_23, g_21, g_5, g_2, fr] w := hS
    refine K.z (K.t (K.r (K.u ?_)))
    have hany : anyT idI key sa = false := by have h := hf; rw [List.take_of_length_le (by omega)] at h; exact h
    have hA : applyT ⟨qa, sa, ma⟩ 5 key val = (⟨qa, sa, ma⟩, 4, 0) := by rw [apS hr1 (by decide), hany]; rfl
    rw [hA]
    refine ⟨.inr rfl, rfl, (.tuple #[.agg #[.slice q qa.length cq, .slice s sa.length cs, .slice m ma.length cm], .agg #[K.iv 4, .int .u32 0]]), K.resAt (rs := [.cell 4 30, .cell 5 49]) [.agg #[.slice q qa.length cq, .slice s sa.length cs, .slice m ma.length cm], .agg #[K.iv 4, .int .u32 0]] rfl ⟨⟨_, rfl, K.lvN [.slice q qa.length cq, .slice s sa.length cs, .slice m ma.length cm] (by kernel_rfl) (by kernel_rfl) (K.cells (K.cl ((hS.blk 1 rfl hg_22).cell rfl) (K.cl ((hS.blk 1 rfl hg_22).cell rfl) (K.cl ((hS.blk 1 rfl hg_22).cell rfl) K.cl0))))⟩, ⟨_, rfl, K.lvN [K.iv 4, .int .u32 0] (by kernel_rfl) (by kernel_rfl) (K.cells (K.cl ((hS.blk 0 rfl hg_24).cell rfl) (K.cl ((hS.blk 0 rfl hg_24).cell rfl) K.cl0)))⟩, trivial⟩, [], ?_, hS.pick [4]⟩
    exact ⟨_, rfl, .inr (.inr (.inr (.inl ⟨rfl, rfl, rfl⟩)))⟩
  ·
   refine K.s (K.s (K.g (K.q [K.pa r_4] ?_)))
   refine K.d (K.iv 5) ((hS.blk 2 rfl hg_6).cell rfl) ?_
   refine K.q [.bool true, .bool true, K.pa r_4] ?_
   refine K.d (K.iv 5) ((hS.blk 2 rfl hg_6).cell rfl) ?_
   refine K.q [.bool true, .bool true, .bool true, K.iv ((j : Nat) : Int), .pointer (some ⟨r_1, 1, none⟩)] ?_
   refine K.d (.slice s sa.length cs) ((hS.blk 3 rfl hg_3).cell rfl) ?_
   refine K.a (K.QR.len (P := Try.prog) rfl rfl Try.underlying27) ?_
   by_cases h_25 : (((j : Nat) : Int) : Int) < (((sa.length : Nat) : Int) : Int)
   ·
    refine K.y ((((j : Nat) : Int) : Int) < (((sa.length : Nat) : Int) : Int)) h_25 ?_
    refine K.q [.bool true] (K.z (K.t (K.h (K.k (K.t (K.s ?_))))))
    refine K.KW.block ?_
    obtain ⟨b_26, of_27, rfl, _⟩ := x2.at_ (by omega)
    refine K.KW.gdrawn [] hS (by kernel_rfl) ?_
    clear hS; intro w hS
    refine K.b 0 rfl (.bool true) (hS.pick []) ?_
    refine K.b 1 rfl (.bool true) (hS.pick []) ?_
    refine K.w_ 2 rfl (hS.pick []) ?_
    refine K.w_ 3 rfl (hS.pick []) ?_
    refine K.w_ 4 rfl (hS.pick []) ?_
    refine K.w_ 5 rfl (hS.pick []) ?_
    refine K.w_ 6 rfl (hS.pick []) ?_
    refine K.w_ 7 rfl (hS.pick []) ?_
    refine K.w_ 8 rfl (hS.pick []) ?_
    refine K.w_ 9 rfl (hS.pick []) ?_
    refine K.b 10 rfl (.bool true) (hS.pick []) ?_
    refine K.b 11 rfl (.bool true) (hS.pick []) ?_
    refine K.DW.done (by kernel_rfl) ?_
    refine K.blk_normal ?_
    refine K.t (K.g (K.q [K.iv ((j : Nat) : Int)] ?_))
    refine K.a (K.QR.n64 ((((j : Nat) : Int) : Int) + (1 : Int)) ((j + 1 : Nat) : Int) (by kernel_rfl) (by omega)) ?_
    refine K.q [K.iv ((j + 1 : Nat) : Int)] (K.z (K.t ?_))
    refine ⟨_, ?_, j + 1, true, rfl, ⟨by rfl, by rfl, by rfl, by rfl, by rfl, by rfl, by rfl, by rfl, by rfl, trivial⟩, (by omega), ((anyT_next (d := 0) hf (by omega)).trans any_t), hS.pick [0, 1, 2, 3, 4]⟩
    omega
   ·
    refine K.x ((((j : Nat) : Int) : Int) < (((sa.length : Nat) : Int) : Int)) h_25 ?_
    refine K.q [.bool false] (K.z (K.t (K.f ?_)))
    refine K.KW.exit ?_
    refine K.thn_exit ?_
    refine K.thn_exit ?_
    refine K.blk_hit ?_
    refine K.t (K.s (K.g (K.q [.int .u32 0] (K.z (K.t (K.s (K.s (K.g (K.q [K.iv 0] (K.z (K.t ?_)))))))))))
    refine K.KW.block ?_
    refine K.KW.unr 0 ?_
    refine K.Unr.zero ?_
    refine K.s (K.s (K.g (K.q [K.pa r_4] ?_)))
    refine K.d (K.iv 5) ((hS.blk 2 rfl hg_6).cell rfl) ?_
    refine K.q [.bool false, .bool false] (K.n_ (K.n_ (K.n_ (K.q [.bool false, .bool false] (K.n_ (K.n_ (K.n_ (K.n_ (K.n_ (K.q [.bool false] (K.z (K.t (K.f ?_)))))))))))))
    refine K.KW.exit ?_
    refine K.thn_exit ?_
    refine K.thn_exit ?_
    refine K.blk_hit ?_
    refine K.t (K.s (K.s (K.g (K.q [K.pa r_4] ?_))))
    refine K.d (K.iv 5) ((hS.blk 2 rfl hg_6).cell rfl) ?_
    refine K.q [.bool false, .bool false, K.pa r_4] ?_
    refine K.d (K.iv 5) ((hS.blk 2 rfl hg_6).cell rfl) ?_
    refine K.q [.bool false, .bool false] (K.z (K.t (K.f (K.k (K.t (K.s (K.s (K.g (K.q [.bool true, .bool true, K.pa r_4] ?_)))))))))
    refine K.d (K.iv 5) ((hS.blk 2 rfl hg_6).cell rfl) ?_
    refine K.q [.bool true, .bool true, .bool true, K.pa r_4] ?_
    refine K.d (K.iv 5) ((hS.blk 2 rfl hg_6).cell rfl) ?_
    refine K.q [.bool true, .bool true] (K.z (K.t (K.h (K.s (K.g ?_)))))
    refine K.a (K.QR.ldN [.slice q qa.length cq, .slice s sa.length cs, .slice m ma.length cm] rfl rfl (by kernel_rfl) (by kernel_rfl) (K.cells (K.cl ((hS.blk 3 rfl hg_3).cell rfl) (K.cl ((hS.blk 3 rfl hg_3).cell rfl) (K.cl ((hS.blk 3 rfl hg_3).cell rfl) K.cl0))))) ?_
    refine K.q [.int .u32 0] ?_
    refine K.a (K.QR.bd [(0, K.iv 3), (1, .int .u32 0)] [K.iv 3, .int .u32 0] rfl rfl (by kernel_rfl)) ?_
    refine K.l (K.OW.gst 1 [.slice q qa.length cq, .slice s sa.length cs, .slice m ma.length cm] _ hS hg_9 ?_)
    clear hS; intro w g_28 hg_29 hS
    replace hS : K.Sat w0 [g_11, g_28, g_5, g_2, fr] w := hS
    refine K.l (K.OW.gst 0 [K.iv 3, .int .u32 0] _ hS hg_12 ?_)
    clear hS; intro w g_30 hg_31 hS
    replace hS : K.Sat w0 [g_30, g_28, g_5, g_2, fr] w := hS
    refine K.z (K.t (K.r (K.u ?_)))
    have hany : anyT idI key sa = true := by have h := hf; rw [List.take_of_length_le (by omega)] at h; exact h
    have hA : applyT ⟨qa, sa, ma⟩ 5 key val = (⟨qa, sa, ma⟩, 3, 0) := by rw [apS hr1 (by decide), hany]; rfl
    rw [hA]
    refine ⟨.inr rfl, rfl, (.tuple #[.agg #[.slice q qa.length cq, .slice s sa.length cs, .slice m ma.length cm], .agg #[K.iv 3, .int .u32 0]]), K.resAt (rs := [.cell 4 30, .cell 5 49]) [.agg #[.slice q qa.length cq, .slice s sa.length cs, .slice m ma.length cm], .agg #[K.iv 3, .int .u32 0]] rfl ⟨⟨_, rfl, K.lvN [.slice q qa.length cq, .slice s sa.length cs, .slice m ma.length cm] (by kernel_rfl) (by kernel_rfl) (K.cells (K.cl ((hS.blk 1 rfl hg_29).cell rfl) (K.cl ((hS.blk 1 rfl hg_29).cell rfl) (K.cl ((hS.blk 1 rfl hg_29).cell rfl) K.cl0))))⟩, ⟨_, rfl, K.lvN [K.iv 3, .int .u32 0] (by kernel_rfl) (by kernel_rfl) (K.cells (K.cl ((hS.blk 0 rfl hg_31).cell rfl) (K.cl ((hS.blk 0 rfl hg_31).cell rfl) K.cl0)))⟩, trivial⟩, [], ?_, hS.pick [4]⟩
    exact ⟨_, rfl, .inr (.inr (.inr (.inl ⟨rfl, rfl, rfl⟩)))⟩
set_option maxHeartbeats 1000000 in
set_option maxRecDepth 100000 in
theorem rapplyB6_ok (w0 : World) (q s m : Option Addr) (cq cs cm : Nat) (qa sa : List Int) (ma : List PairM) (key val : Int) (h1 : qa.length ≤ 1000000) (h2 : sa.length ≤ 1000000) (h3 : ma.length ≤ 1000000) (hr1 : rising sa) (hr2 : rising (keysP ma)) (hc : qa.length ≤ cq) (x1 : RU32 w0 q qa) (x2 : RU32 w0 s sa) (x3 : RPr w0 m ma) :
  K.GC Try.prog w0 31 #[.agg #[.slice q qa.length cq, .slice s sa.length cs, .slice m ma.length cm], .agg #[K.iv 6, .int .u32 key, .int .u32 val]] [] (ApB q s m cq cs cm qa sa ma (applyT ⟨qa, sa, ma⟩ 6 key val)) := by
 refine K.GC.mk (n := 192) Try.func31 rfl rfl [.agg #[.slice q qa.length cq, .slice s sa.length cs, .slice m ma.length cm], .agg #[K.iv 6, .int .u32 key, .int .u32 val]] rfl rfl ?_
 intro fr w hS
 replace hS : K.Sat w0 [fr] w := hS
 refine K.s (K.g ?_)
 refine K.l (K.OW.gnew 30 [.slice q qa.length cq, .slice s sa.length cs, .slice m ma.length cm] hS ?_)
 clear hS; intro w r_1 g_2 hg_3 hS
 refine K.l (K.OW.gnew 47 [K.iv 6, .int .u32 key, .int .u32 val] hS ?_)
 clear hS; intro w r_4 g_5 hg_6 hS
 refine K.l (K.OW.gnew 30 [.slice none 0 0, .slice none 0 0, .slice none 0 0] hS ?_)
 clear hS; intro w r_7 g_8 hg_9 hS
 refine K.l (K.OW.gnew 49 [K.iv 0, .int .u32 0] hS ?_)
 clear hS; intro w r_10 g_11 hg_12 hS
 refine K.z (K.t (K.s (K.s (K.g (K.q [K.pa r_4] ?_)))))
 refine K.d (K.iv 6) ((hS.blk 2 rfl hg_6).cell rfl) ?_
 refine K.q [.bool false] (K.z (K.t (K.f (K.k (K.t (K.s (K.s (K.g (K.q [K.pa r_4] ?_)))))))))
 refine K.d (K.iv 6) ((hS.blk 2 rfl hg_6).cell rfl) ?_
 refine K.q [.bool false, .bool false] (K.n_ (K.n_ (K.n_ (K.n_ (K.q [.bool false] (K.z (K.t (K.f (K.k (K.t (K.s (K.s (K.g (K.q [K.pa r_4] ?_))))))))))))))
 refine K.d (K.iv 6) ((hS.blk 2 rfl hg_6).cell rfl) ?_
 refine K.q [.bool false] (K.z (K.t (K.f (K.k (K.t (K.s (K.g (K.q [.bool false] (K.z (K.t (K.s (K.s (K.g (K.q [K.iv 0] ?_))))))))))))))
 refine K.z (K.t ?_)
 refine K.KW.block ?_
 refine K.KW.unr 0 ?_
 refine K.Unr.zero ?_
 refine K.s (K.s (K.g (K.q [K.pa r_4] ?_)))
 refine K.d (K.iv 6) ((hS.blk 2 rfl hg_6).cell rfl) ?_
 refine K.q [.bool true, .bool true, K.pa r_4] ?_
 refine K.d (K.iv 6) ((hS.blk 2 rfl hg_6).cell rfl) ?_
 refine K.q [.bool false, .bool false, .bool false] (K.n_ (K.n_ (K.n_ (K.n_ (K.n_ (K.q [.bool false] (K.z (K.t (K.f ?_)))))))))
 refine K.KW.exit ?_
 refine K.thn_exit ?_
 refine K.thn_exit ?_
 refine K.blk_hit ?_
 refine K.t (K.s (K.g (K.q [.int .u32 0] (K.z (K.t (K.s (K.s (K.g (K.q [K.iv 0] (K.z (K.t ?_)))))))))))
 refine K.KW.block ?_
 refine K.KW.loop (fun m_ F_ w_ => ∃ (j : Nat) (f : Bool) (vv : Int), m_ = ma.length - j ∧ K.Sl F_ [(0, .agg #[.slice q qa.length cq, .slice s sa.length cs, .slice m ma.length cm]), (1, .agg #[K.iv 6, .int .u32 key, .int .u32 val]), (2, K.pa r_1), (3, K.pa r_4), (4, K.pa r_7), (5, K.pa r_10), (9, .bool f), (11, .int .u32 vv), (12, K.iv ((j : Nat) : Int)), (192, undef)] ∧ j ≤ ma.length ∧ anyT PairM.key key (ma.take j) = f ∧ vv = (lastT PairM.key key p0 (ma.take j)).val ∧ K.Sat w0 [g_11, g_8, g_5, g_2, fr] w_) ((fun (j : Nat) (f : Bool) (vv : Int) => ma.length - j) 0 false 0) ?_ ?_
 ·
  exact ⟨0, false, 0, rfl, ⟨by rfl, by rfl, by rfl, by rfl, by rfl, by rfl, by rfl, by rfl, by rfl, by rfl, trivial⟩, (by omega), (rfl), (rfl), hS.pick [0, 1, 2, 3, 4]⟩
 ·
  clear hS
  intro m_13 F_14 w hI
  obtain ⟨j, f, vv, rfl, sl_15, p_16, hf, hv, hS⟩ := hI
  rw [← K.Sl.puts sl_15]; clear sl_15
  cases f
  ·
   refine K.s (K.s (K.g (K.q [K.pa r_4] ?_)))
   refine K.d (K.iv 6) ((hS.blk 2 rfl hg_6).cell rfl) ?_
   refine K.q [.bool true, .bool true, K.pa r_4] ?_
   refine K.d (K.iv 6) ((hS.blk 2 rfl hg_6).cell rfl) ?_
   refine K.q [.bool true, .bool true, .bool true, K.iv ((j : Nat) : Int), .pointer (some ⟨r_1, 2, none⟩)] ?_
   refine K.d (.slice m ma.length cm) ((hS.blk 3 rfl hg_3).cell rfl) ?_
   refine K.a (K.QR.len (P := Try.prog) rfl rfl Try.underlying28) ?_
   by_cases h_17 : (((j : Nat) : Int) : Int) < (((ma.length : Nat) : Int) : Int)
   ·
    refine K.y ((((j : Nat) : Int) : Int) < (((ma.length : Nat) : Int) : Int)) h_17 ?_
    refine K.q [.bool true] (K.z (K.t (K.h (K.k (K.t (K.s ?_))))))
    refine K.KW.block ?_
    refine K.s ?_
    obtain ⟨b_18, of_19, rfl, _⟩ := x3.at_ (by omega)
    refine K.KW.gdrawn [3] hS (by kernel_rfl) ?_
    clear hS; intro w hS
    refine K.p 0 rfl (.pointer (some ⟨r_1, 2, none⟩)) (hS.pick [3]) ?_
    refine K.o_ 1 rfl (.slice (some ⟨b_18, of_19, none⟩) ma.length cm) (fun w hS => ((hS.blk 0 rfl hg_3).cell rfl)) (hS.pick [3]) ?_
    refine K.p 2 rfl (K.iv ((j : Nat) : Int)) (hS.pick [3]) ?_
    refine K.m 3 rfl (fun w hS => K.QR.ix (of_19 + j * 2) 2 rfl rfl rfl Try.underlying28 (by kernel_rfl) (by omega) (by first | (simp; done) | omega | (simp; omega))) (hS.pick [3]) ?_
    refine K.p 4 rfl (.pointer (some ⟨b_18, of_19 + j * 2, none⟩)) (hS.pick [3]) ?_
    refine K.o_ 5 rfl (.int .u32 ((ma.getD j p0).key)) (fun w hS => ((x3.no hS.chg).ld j (by omega) 0 _ rfl)) (hS.pick [3]) ?_
    refine K.b 6 rfl (.pointer (some ⟨r_4, 1, none⟩)) (hS.pick [3]) ?_
    refine K.c 7 rfl (K.QR.ld1 (v := .int .u32 key) rfl rfl (by kernel_rfl) ((hS.blk 2 rfl hg_6).cell rfl)) (hS.pick [3]) ?_
    by_cases h_20 : ((ma.getD j p0).key : Int) = (key : Int)
    ·
     refine K.c 8 rfl (K.QR.nice (v := .bool (((ma.getD j p0).key : Int) == (key : Int))) (by kernel_rfl) (congrArg Value.bool (beq_iff_eq.2 h_20))) (hS.pick [3]) ?_
     refine K.DW.done (by kernel_rfl) ?_
     refine K.t (K.h (K.s (K.g (K.q [.bool true] (K.z (K.t (K.g (K.q [.pointer (some ⟨r_1, 2, none⟩)] ?_))))))))
     refine K.d (.slice (some ⟨b_18, of_19, none⟩) ma.length cm) ((hS.blk 3 rfl hg_3).cell rfl) ?_
     refine K.q [K.iv ((j : Nat) : Int)] ?_
     refine K.a (K.QR.ix (of_19 + j * 2) 2 rfl rfl rfl Try.underlying28 (by kernel_rfl) (by omega) (by first | (simp; done) | omega | (simp; omega))) ?_
     refine K.q [.pointer (some ⟨b_18, of_19 + j * 2 + 1, none⟩)] ?_
     refine K.d (.int .u32 ((ma.getD j p0).val)) ((x3.no hS.chg).ld j (by omega) 1 _ rfl) ?_
     refine K.q [.int .u32 ((ma.getD j p0).val)] (K.z ?_)
     refine K.blk_normal ?_
     refine K.t (K.g (K.q [K.iv ((j : Nat) : Int)] ?_))
     refine K.a (K.QR.n64 ((((j : Nat) : Int) : Int) + (1 : Int)) ((j + 1 : Nat) : Int) (by kernel_rfl) (by omega)) ?_
     refine K.q [K.iv ((j + 1 : Nat) : Int)] (K.z (K.t ?_))
     refine ⟨_, ?_, j + 1, true, (ma.getD j p0).val, rfl, ⟨by rfl, by rfl, by rfl, by rfl, by rfl, by rfl, by rfl, by rfl, by rfl, by rfl, trivial⟩, (by omega), ((anyT_next (d := p0) hf (by omega)).trans (any_y2 _ (by assumption))), (last_y (by omega) (by assumption)), hS.pick [0, 1, 2, 3, 4]⟩
     omega
    ·
     refine K.c 8 rfl (K.QR.nice (v := .bool (((ma.getD j p0).key : Int) == (key : Int))) (by kernel_rfl) (congrArg Value.bool (beq_eq_false_iff_ne.2 h_20))) (hS.pick [3]) ?_
     refine K.DW.done (by kernel_rfl) ?_
     refine K.t (K.f (K.k ?_))
     refine K.blk_normal ?_
     refine K.t (K.g (K.q [K.iv ((j : Nat) : Int)] ?_))
     refine K.a (K.QR.n64 ((((j : Nat) : Int) : Int) + (1 : Int)) ((j + 1 : Nat) : Int) (by kernel_rfl) (by omega)) ?_
     refine K.q [K.iv ((j + 1 : Nat) : Int)] (K.z (K.t ?_))
     refine ⟨_, ?_, j + 1, false, vv, rfl, ⟨by rfl, by rfl, by rfl, by rfl, by rfl, by rfl, by rfl, by rfl, by rfl, by rfl, trivial⟩, (by omega), ((anyT_next (d := p0) hf (by omega)).trans (any_n2 _ (by assumption))), (last_n hv (by omega) (by assumption)), hS.pick [0, 1, 2, 3, 4]⟩
     omega
   ·
    refine K.x ((((j : Nat) : Int) : Int) < (((ma.length : Nat) : Int) : Int)) h_17 ?_
    refine K.q [.bool false] (K.z (K.t (K.f ?_)))
    refine K.KW.exit ?_
    refine K.thn_exit ?_
    refine K.thn_exit ?_
    refine K.blk_hit ?_
    refine K.t (K.s (K.s (K.g (K.q [K.pa r_4] ?_))))
    refine K.d (K.iv 6) ((hS.blk 2 rfl hg_6).cell rfl) ?_
    refine K.q [.bool false, .bool false, K.pa r_4] ?_
    refine K.d (K.iv 6) ((hS.blk 2 rfl hg_6).cell rfl) ?_
    refine K.q [.bool false, .bool false] (K.z (K.t (K.f (K.k (K.t (K.s (K.s (K.g (K.q [.bool false, .bool false] (K.n_ (K.n_ (K.n_ (K.q [.bool false, .bool false] (K.n_ ?_))))))))))))))
    refine K.n_ (K.n_ (K.q [.bool false] (K.z (K.t (K.f (K.k (K.t (K.s (K.s (K.g (K.q [.bool false, .bool true, .bool true, K.pa r_4] ?_)))))))))))
    refine K.d (K.iv 6) ((hS.blk 2 rfl hg_6).cell rfl) ?_
    refine K.q [.bool true, .bool true, .bool true, K.pa r_4] ?_
    refine K.d (K.iv 6) ((hS.blk 2 rfl hg_6).cell rfl) ?_
    refine K.q [.bool false, .bool false] (K.z (K.t (K.f (K.k (K.t (K.s (K.s (K.g (K.q [K.pa r_4] ?_)))))))))
    refine K.d (K.iv 6) ((hS.blk 2 rfl hg_6).cell rfl) ?_
    refine K.q [.bool false] (K.z (K.t (K.f (K.k (K.t (K.s (K.g (K.q [.pointer (some ⟨r_1, 2, none⟩)] ?_))))))))
    refine K.d (.slice m ma.length cm) ((hS.blk 3 rfl hg_3).cell rfl) ?_
    refine K.q [.pointer (some ⟨r_4, 1, none⟩)] ?_
    refine K.d (.int .u32 key) ((hS.blk 2 rfl hg_6).cell rfl) ?_
    refine K.q [.pointer (some ⟨r_4, 2, none⟩)] ?_
    refine K.d (.int .u32 val) ((hS.blk 2 rfl hg_6).cell rfl) ?_
    refine K.a (K.QR.bd [(0, .int .u32 key), (1, .int .u32 val)] [.int .u32 key, .int .u32 val] rfl rfl (by kernel_rfl)) ?_
    refine K.q [K.pa r_4] ?_
    refine K.d (K.iv 6) ((hS.blk 2 rfl hg_6).cell rfl) ?_
    refine K.q [.bool true] ?_
    refine K.l (K.OW.gcall hS [55] [0, 1, 2, 3, 4] [.slice m ma.length cm, .agg #[.int .u32 key, .int .u32 val], .bool true] (prsT_ok _ _ _ ma key val (by omega) _ (fun w h => x3.no h.chg)) ?_)
    clear hS; rintro _ _ w ⟨r_21, c_22, l_23, rfl, rfl, o_24⟩ hS
    replace hS : K.Sat w0 [l_23, g_11, g_8, g_5, g_2, fr] w := hS.of (by simp [K.pick, K.nth])
    refine K.q [.pointer (some ⟨r_1, 2, none⟩)] ?_
    refine K.l (K.OW.gst 4 [.slice r_21 ((keysR PairM.key key ⟨key, val⟩ true ma).length) c_22] _ hS hg_3 ?_)
    clear hS; intro w g_25 hg_26 hS
    replace hS : K.Sat w0 [l_23, g_11, g_8, g_5, g_25, fr] w := hS
    refine K.z (K.t (K.s (K.g ?_)))
    refine K.a (K.QR.ldN [.slice q qa.length cq, .slice s sa.length cs, .slice r_21 ((keysR PairM.key key ⟨key, val⟩ true ma).length) c_22] rfl rfl (by kernel_rfl) (by kernel_rfl) (K.cells (K.cl ((hS.blk 4 rfl hg_26).cell rfl) (K.cl ((hS.blk 4 rfl hg_26).cell rfl) (K.cl ((hS.blk 4 rfl hg_26).cell rfl) K.cl0))))) ?_
    refine K.q [.int .u32 vv] ?_
    refine K.a (K.QR.bd [(0, K.iv 1), (1, .int .u32 vv)] [K.iv 1, .int .u32 vv] rfl rfl (by kernel_rfl)) ?_
    refine K.l (K.OW.gst 2 [.slice q qa.length cq, .slice s sa.length cs, .slice r_21 ((keysR PairM.key key ⟨key, val⟩ true ma).length) c_22] _ hS hg_9 ?_)
    clear hS; intro w g_27 hg_28 hS
    replace hS : K.Sat w0 [l_23, g_11, g_27, g_5, g_25, fr] w := hS
    refine K.l (K.OW.gst 1 [K.iv 1, .int .u32 vv] _ hS hg_12 ?_)
    clear hS; intro w g_29 hg_30 hS
    replace hS : K.Sat w0 [l_23, g_29, g_27, g_5, g_25, fr] w := hS
    refine K.z (K.t (K.r ?_))
    have hany : anyT PairM.key key ma = false := by have h := hf; rw [List.take_of_length_le (by omega)] at h; exact h
    have hlast : vv = (lastT PairM.key key p0 ma).val := by have h := hv; rw [List.take_of_length_le (by omega)] at h; exact h
    have hA : applyT ⟨qa, sa, ma⟩ 6 key val = (⟨qa, sa, (keysR PairM.key key ⟨key, val⟩ true ma)⟩, 1, vv) := by rw [apM hr2 (by decide), hany, ← hlast]; rfl
    rw [hA]
    refine ⟨.inr rfl, rfl, (.tuple #[.agg #[.slice q qa.length cq, .slice s sa.length cs, .slice r_21 ((keysR PairM.key key ⟨key, val⟩ true ma).length) c_22], .agg #[K.iv 1, .int .u32 vv]]), K.resAt (rs := [.cell 4 30, .cell 5 49]) [.agg #[.slice q qa.length cq, .slice s sa.length cs, .slice r_21 ((keysR PairM.key key ⟨key, val⟩ true ma).length) c_22], .agg #[K.iv 1, .int .u32 vv]] rfl ⟨⟨_, rfl, K.lvN [.slice q qa.length cq, .slice s sa.length cs, .slice r_21 ((keysR PairM.key key ⟨key, val⟩ true ma).length) c_22] (by kernel_rfl) (by kernel_rfl) (K.cells (K.cl ((hS.blk 2 rfl hg_28).cell rfl) (K.cl ((hS.blk 2 rfl hg_28).cell rfl) (K.cl ((hS.blk 2 rfl hg_28).cell rfl) K.cl0))))⟩, ⟨_, rfl, K.lvN [K.iv 1, .int .u32 vv] (by kernel_rfl) (by kernel_rfl) (K.cells (K.cl ((hS.blk 1 rfl hg_30).cell rfl) (K.cl ((hS.blk 1 rfl hg_30).cell rfl) K.cl0)))⟩, trivial⟩, [l_23], ?_, hS.pick [0, 5]⟩
    exact ⟨_, rfl, .inr (.inr (.inl ⟨_, _, _, rfl, o_24, rfl, rfl, rfl⟩))⟩
  ·
   refine K.s (K.s (K.g (K.q [K.pa r_4] ?_)))
   refine K.d (K.iv 6) ((hS.blk 2 rfl hg_6).cell rfl) ?_
   refine K.q [.bool true, .bool true, K.pa r_4] ?_
   refine K.d (K.iv 6) ((hS.blk 2 rfl hg_6).cell rfl) ?_
   refine K.q [.bool true, .bool true, .bool true, K.iv ((j : Nat) : Int), .pointer (some ⟨r_1, 2, none⟩)] ?_
   refine K.d (.slice m ma.length cm) ((hS.blk 3 rfl hg_3).cell rfl) ?_
   refine K.a (K.QR.len (P := Try.prog) rfl rfl Try.underlying28) ?_
   by_cases h_31 : (((j : Nat) : Int) : Int) < (((ma.length : Nat) : Int) : Int)
   ·
    refine K.y ((((j : Nat) : Int) : Int) < (((ma.length : Nat) : Int) : Int)) h_31 ?_
    refine K.q [.bool true] (K.z (K.t (K.h (K.k (K.t (K.s ?_))))))
    refine K.KW.block ?_
    refine K.s ?_
    obtain ⟨b_32, of_33, rfl, _⟩ := x3.at_ (by omega)
    refine K.KW.gdrawn [3] hS (by kernel_rfl) ?_
    clear hS; intro w hS
    refine K.p 0 rfl (.pointer (some ⟨r_1, 2, none⟩)) (hS.pick [3]) ?_
    refine K.o_ 1 rfl (.slice (some ⟨b_32, of_33, none⟩) ma.length cm) (fun w hS => ((hS.blk 0 rfl hg_3).cell rfl)) (hS.pick [3]) ?_
    refine K.p 2 rfl (K.iv ((j : Nat) : Int)) (hS.pick [3]) ?_
    refine K.m 3 rfl (fun w hS => K.QR.ix (of_33 + j * 2) 2 rfl rfl rfl Try.underlying28 (by kernel_rfl) (by omega) (by first | (simp; done) | omega | (simp; omega))) (hS.pick [3]) ?_
    refine K.p 4 rfl (.pointer (some ⟨b_32, of_33 + j * 2, none⟩)) (hS.pick [3]) ?_
    refine K.o_ 5 rfl (.int .u32 ((ma.getD j p0).key)) (fun w hS => ((x3.no hS.chg).ld j (by omega) 0 _ rfl)) (hS.pick [3]) ?_
    refine K.b 6 rfl (.pointer (some ⟨r_4, 1, none⟩)) (hS.pick [3]) ?_
    refine K.c 7 rfl (K.QR.ld1 (v := .int .u32 key) rfl rfl (by kernel_rfl) ((hS.blk 2 rfl hg_6).cell rfl)) (hS.pick [3]) ?_
    by_cases h_34 : ((ma.getD j p0).key : Int) = (key : Int)
    ·
     refine K.c 8 rfl (K.QR.nice (v := .bool (((ma.getD j p0).key : Int) == (key : Int))) (by kernel_rfl) (congrArg Value.bool (beq_iff_eq.2 h_34))) (hS.pick [3]) ?_
     refine K.DW.done (by kernel_rfl) ?_
     refine K.t (K.h (K.s (K.g (K.q [.bool true] (K.z (K.t (K.g (K.q [.pointer (some ⟨r_1, 2, none⟩)] ?_))))))))
     refine K.d (.slice (some ⟨b_32, of_33, none⟩) ma.length cm) ((hS.blk 3 rfl hg_3).cell rfl) ?_
     refine K.q [K.iv ((j : Nat) : Int)] ?_
     refine K.a (K.QR.ix (of_33 + j * 2) 2 rfl rfl rfl Try.underlying28 (by kernel_rfl) (by omega) (by first | (simp; done) | omega | (simp; omega))) ?_
     refine K.q [.pointer (some ⟨b_32, of_33 + j * 2 + 1, none⟩)] ?_
     refine K.d (.int .u32 ((ma.getD j p0).val)) ((x3.no hS.chg).ld j (by omega) 1 _ rfl) ?_
     refine K.q [.int .u32 ((ma.getD j p0).val)] (K.z ?_)
     refine K.blk_normal ?_
     refine K.t (K.g (K.q [K.iv ((j : Nat) : Int)] ?_))
     refine K.a (K.QR.n64 ((((j : Nat) : Int) : Int) + (1 : Int)) ((j + 1 : Nat) : Int) (by kernel_rfl) (by omega)) ?_
     refine K.q [K.iv ((j + 1 : Nat) : Int)] (K.z (K.t ?_))
     refine ⟨_, ?_, j + 1, true, (ma.getD j p0).val, rfl, ⟨by rfl, by rfl, by rfl, by rfl, by rfl, by rfl, by rfl, by rfl, by rfl, by rfl, trivial⟩, (by omega), ((anyT_next (d := p0) hf (by omega)).trans (any_y2 _ (by assumption))), (last_y (by omega) (by assumption)), hS.pick [0, 1, 2, 3, 4]⟩
     omega
    ·
     refine K.c 8 rfl (K.QR.nice (v := .bool (((ma.getD j p0).key : Int) == (key : Int))) (by kernel_rfl) (congrArg Value.bool (beq_eq_false_iff_ne.2 h_34))) (hS.pick [3]) ?_
     refine K.DW.done (by kernel_rfl) ?_
     refine K.t (K.f (K.k ?_))
     refine K.blk_normal ?_
     refine K.t (K.g (K.q [K.iv ((j : Nat) : Int)] ?_))
     refine K.a (K.QR.n64 ((((j : Nat) : Int) : Int) + (1 : Int)) ((j + 1 : Nat) : Int) (by kernel_rfl) (by omega)) ?_
     refine K.q [K.iv ((j + 1 : Nat) : Int)] (K.z (K.t ?_))
     refine ⟨_, ?_, j + 1, true, vv, rfl, ⟨by rfl, by rfl, by rfl, by rfl, by rfl, by rfl, by rfl, by rfl, by rfl, by rfl, trivial⟩, (by omega), ((anyT_next (d := p0) hf (by omega)).trans (any_n2 _ (by assumption))), (last_n hv (by omega) (by assumption)), hS.pick [0, 1, 2, 3, 4]⟩
     omega
   ·
    refine K.x ((((j : Nat) : Int) : Int) < (((ma.length : Nat) : Int) : Int)) h_31 ?_
    refine K.q [.bool false] (K.z (K.t (K.f ?_)))
    refine K.KW.exit ?_
    refine K.thn_exit ?_
    refine K.thn_exit ?_
    refine K.blk_hit ?_
    refine K.t (K.s (K.s (K.g (K.q [K.pa r_4] ?_))))
    refine K.d (K.iv 6) ((hS.blk 2 rfl hg_6).cell rfl) ?_
    refine K.q [.bool false, .bool false, K.pa r_4] ?_
    refine K.d (K.iv 6) ((hS.blk 2 rfl hg_6).cell rfl) ?_
    refine K.q [.bool false, .bool false] (K.z (K.t (K.f (K.k (K.t (K.s (K.s (K.g (K.q [.bool true, .bool true, K.pa r_4] ?_)))))))))
    refine K.d (K.iv 6) ((hS.blk 2 rfl hg_6).cell rfl) ?_
    refine K.q [.bool true, .bool true, .bool true, K.pa r_4] ?_
    refine K.d (K.iv 6) ((hS.blk 2 rfl hg_6).cell rfl) ?_
    refine K.q [.bool true, .bool true] (K.z (K.t (K.h (K.s (K.g ?_)))))
    refine K.a (K.QR.ldN [.slice q qa.length cq, .slice s sa.length cs, .slice m ma.length cm] rfl rfl (by kernel_rfl) (by kernel_rfl) (K.cells (K.cl ((hS.blk 3 rfl hg_3).cell rfl) (K.cl ((hS.blk 3 rfl hg_3).cell rfl) (K.cl ((hS.blk 3 rfl hg_3).cell rfl) K.cl0))))) ?_
    refine K.q [.int .u32 vv] ?_
    refine K.a (K.QR.bd [(0, K.iv 3), (1, .int .u32 vv)] [K.iv 3, .int .u32 vv] rfl rfl (by kernel_rfl)) ?_
    refine K.l (K.OW.gst 1 [.slice q qa.length cq, .slice s sa.length cs, .slice m ma.length cm] _ hS hg_9 ?_)
    clear hS; intro w g_35 hg_36 hS
    replace hS : K.Sat w0 [g_11, g_35, g_5, g_2, fr] w := hS
    refine K.l (K.OW.gst 0 [K.iv 3, .int .u32 vv] _ hS hg_12 ?_)
    clear hS; intro w g_37 hg_38 hS
    replace hS : K.Sat w0 [g_37, g_35, g_5, g_2, fr] w := hS
    refine K.z (K.t (K.r (K.u ?_)))
    have hany : anyT PairM.key key ma = true := by have h := hf; rw [List.take_of_length_le (by omega)] at h; exact h
    have hlast : vv = (lastT PairM.key key p0 ma).val := by have h := hv; rw [List.take_of_length_le (by omega)] at h; exact h
    have hA : applyT ⟨qa, sa, ma⟩ 6 key val = (⟨qa, sa, ma⟩, 3, vv) := by rw [apM hr2 (by decide), hany, ← hlast]; rfl
    rw [hA]
    refine ⟨.inr rfl, rfl, (.tuple #[.agg #[.slice q qa.length cq, .slice s sa.length cs, .slice m ma.length cm], .agg #[K.iv 3, .int .u32 vv]]), K.resAt (rs := [.cell 4 30, .cell 5 49]) [.agg #[.slice q qa.length cq, .slice s sa.length cs, .slice m ma.length cm], .agg #[K.iv 3, .int .u32 vv]] rfl ⟨⟨_, rfl, K.lvN [.slice q qa.length cq, .slice s sa.length cs, .slice m ma.length cm] (by kernel_rfl) (by kernel_rfl) (K.cells (K.cl ((hS.blk 1 rfl hg_36).cell rfl) (K.cl ((hS.blk 1 rfl hg_36).cell rfl) (K.cl ((hS.blk 1 rfl hg_36).cell rfl) K.cl0))))⟩, ⟨_, rfl, K.lvN [K.iv 3, .int .u32 vv] (by kernel_rfl) (by kernel_rfl) (K.cells (K.cl ((hS.blk 0 rfl hg_38).cell rfl) (K.cl ((hS.blk 0 rfl hg_38).cell rfl) K.cl0)))⟩, trivial⟩, [], ?_, hS.pick [4]⟩
    exact ⟨_, rfl, .inr (.inr (.inr (.inl ⟨rfl, rfl, rfl⟩)))⟩
set_option maxHeartbeats 1000000 in
set_option maxRecDepth 100000 in
theorem rapplyB7_ok (w0 : World) (q s m : Option Addr) (cq cs cm : Nat) (qa sa : List Int) (ma : List PairM) (key val : Int) (h1 : qa.length ≤ 1000000) (h2 : sa.length ≤ 1000000) (h3 : ma.length ≤ 1000000) (hr1 : rising sa) (hr2 : rising (keysP ma)) (hc : qa.length ≤ cq) (x1 : RU32 w0 q qa) (x2 : RU32 w0 s sa) (x3 : RPr w0 m ma) :
  K.GC Try.prog w0 31 #[.agg #[.slice q qa.length cq, .slice s sa.length cs, .slice m ma.length cm], .agg #[K.iv 7, .int .u32 key, .int .u32 val]] [] (ApB q s m cq cs cm qa sa ma (applyT ⟨qa, sa, ma⟩ 7 key val)) := by
 refine K.GC.mk (n := 192) Try.func31 rfl rfl [.agg #[.slice q qa.length cq, .slice s sa.length cs, .slice m ma.length cm], .agg #[K.iv 7, .int .u32 key, .int .u32 val]] rfl rfl ?_
 intro fr w hS
 replace hS : K.Sat w0 [fr] w := hS
 refine K.s (K.g ?_)
 refine K.l (K.OW.gnew 30 [.slice q qa.length cq, .slice s sa.length cs, .slice m ma.length cm] hS ?_)
 clear hS; intro w r_1 g_2 hg_3 hS
 refine K.l (K.OW.gnew 47 [K.iv 7, .int .u32 key, .int .u32 val] hS ?_)
 clear hS; intro w r_4 g_5 hg_6 hS
 refine K.l (K.OW.gnew 30 [.slice none 0 0, .slice none 0 0, .slice none 0 0] hS ?_)
 clear hS; intro w r_7 g_8 hg_9 hS
 refine K.l (K.OW.gnew 49 [K.iv 0, .int .u32 0] hS ?_)
 clear hS; intro w r_10 g_11 hg_12 hS
 refine K.z (K.t (K.s (K.s (K.g (K.q [K.pa r_4] ?_)))))
 refine K.d (K.iv 7) ((hS.blk 2 rfl hg_6).cell rfl) ?_
 refine K.q [.bool false] (K.z (K.t (K.f (K.k (K.t (K.s (K.s (K.g (K.q [K.pa r_4] ?_)))))))))
 refine K.d (K.iv 7) ((hS.blk 2 rfl hg_6).cell rfl) ?_
 refine K.q [.bool false, .bool false] (K.n_ (K.n_ (K.n_ (K.n_ (K.q [.bool false] (K.z (K.t (K.f (K.k (K.t (K.s (K.s (K.g (K.q [K.pa r_4] ?_))))))))))))))
 refine K.d (K.iv 7) ((hS.blk 2 rfl hg_6).cell rfl) ?_
 refine K.q [.bool false] (K.z (K.t (K.f (K.k (K.t (K.s (K.g (K.q [.bool false] (K.z (K.t (K.s (K.s (K.g (K.q [K.iv 0] ?_))))))))))))))
 refine K.z (K.t ?_)
 refine K.KW.block ?_
 refine K.KW.unr 0 ?_
 refine K.Unr.zero ?_
 refine K.s (K.s (K.g (K.q [K.pa r_4] ?_)))
 refine K.d (K.iv 7) ((hS.blk 2 rfl hg_6).cell rfl) ?_
 refine K.q [.bool true, .bool true, K.pa r_4] ?_
 refine K.d (K.iv 7) ((hS.blk 2 rfl hg_6).cell rfl) ?_
 refine K.q [.bool false, .bool false, .bool false] (K.n_ (K.n_ (K.n_ (K.n_ (K.n_ (K.q [.bool false] (K.z (K.t (K.f ?_)))))))))
 refine K.KW.exit ?_
 refine K.thn_exit ?_
 refine K.thn_exit ?_
 refine K.blk_hit ?_
 refine K.t (K.s (K.g (K.q [.int .u32 0] (K.z (K.t (K.s (K.s (K.g (K.q [K.iv 0] (K.z (K.t ?_)))))))))))
 refine K.KW.block ?_
 refine K.KW.loop (fun m_ F_ w_ => ∃ (j : Nat) (f : Bool) (vv : Int), m_ = ma.length - j ∧ K.Sl F_ [(0, .agg #[.slice q qa.length cq, .slice s sa.length cs, .slice m ma.length cm]), (1, .agg #[K.iv 7, .int .u32 key, .int .u32 val]), (2, K.pa r_1), (3, K.pa r_4), (4, K.pa r_7), (5, K.pa r_10), (9, .bool f), (11, .int .u32 vv), (12, K.iv ((j : Nat) : Int)), (192, undef)] ∧ j ≤ ma.length ∧ anyT PairM.key key (ma.take j) = f ∧ vv = (lastT PairM.key key p0 (ma.take j)).val ∧ K.Sat w0 [g_11, g_8, g_5, g_2, fr] w_) ((fun (j : Nat) (f : Bool) (vv : Int) => ma.length - j) 0 false 0) ?_ ?_
 ·
  exact ⟨0, false, 0, rfl, ⟨by rfl, by rfl, by rfl, by rfl, by rfl, by rfl, by rfl, by rfl, by rfl, by rfl, trivial⟩, (by omega), (rfl), (rfl), hS.pick [0, 1, 2, 3, 4]⟩
 ·
  clear hS
  intro m_13 F_14 w hI
  obtain ⟨j, f, vv, rfl, sl_15, p_16, hf, hv, hS⟩ := hI
  rw [← K.Sl.puts sl_15]; clear sl_15
  cases f
  ·
   refine K.s (K.s (K.g (K.q [K.pa r_4] ?_)))
   refine K.d (K.iv 7) ((hS.blk 2 rfl hg_6).cell rfl) ?_
   refine K.q [.bool true, .bool true, K.pa r_4] ?_
   refine K.d (K.iv 7) ((hS.blk 2 rfl hg_6).cell rfl) ?_
   refine K.q [.bool true, .bool true, .bool true, K.iv ((j : Nat) : Int), .pointer (some ⟨r_1, 2, none⟩)] ?_
   refine K.d (.slice m ma.length cm) ((hS.blk 3 rfl hg_3).cell rfl) ?_
   refine K.a (K.QR.len (P := Try.prog) rfl rfl Try.underlying28) ?_
   by_cases h_17 : (((j : Nat) : Int) : Int) < (((ma.length : Nat) : Int) : Int)
   ·
    refine K.y ((((j : Nat) : Int) : Int) < (((ma.length : Nat) : Int) : Int)) h_17 ?_
    refine K.q [.bool true] (K.z (K.t (K.h (K.k (K.t (K.s ?_))))))
    refine K.KW.block ?_
    refine K.s ?_
    obtain ⟨b_18, of_19, rfl, _⟩ := x3.at_ (by omega)
    refine K.KW.gdrawn [3] hS (by kernel_rfl) ?_
    clear hS; intro w hS
    refine K.p 0 rfl (.pointer (some ⟨r_1, 2, none⟩)) (hS.pick [3]) ?_
    refine K.o_ 1 rfl (.slice (some ⟨b_18, of_19, none⟩) ma.length cm) (fun w hS => ((hS.blk 0 rfl hg_3).cell rfl)) (hS.pick [3]) ?_
    refine K.p 2 rfl (K.iv ((j : Nat) : Int)) (hS.pick [3]) ?_
    refine K.m 3 rfl (fun w hS => K.QR.ix (of_19 + j * 2) 2 rfl rfl rfl Try.underlying28 (by kernel_rfl) (by omega) (by first | (simp; done) | omega | (simp; omega))) (hS.pick [3]) ?_
    refine K.p 4 rfl (.pointer (some ⟨b_18, of_19 + j * 2, none⟩)) (hS.pick [3]) ?_
    refine K.o_ 5 rfl (.int .u32 ((ma.getD j p0).key)) (fun w hS => ((x3.no hS.chg).ld j (by omega) 0 _ rfl)) (hS.pick [3]) ?_
    refine K.b 6 rfl (.pointer (some ⟨r_4, 1, none⟩)) (hS.pick [3]) ?_
    refine K.c 7 rfl (K.QR.ld1 (v := .int .u32 key) rfl rfl (by kernel_rfl) ((hS.blk 2 rfl hg_6).cell rfl)) (hS.pick [3]) ?_
    by_cases h_20 : ((ma.getD j p0).key : Int) = (key : Int)
    ·
     refine K.c 8 rfl (K.QR.nice (v := .bool (((ma.getD j p0).key : Int) == (key : Int))) (by kernel_rfl) (congrArg Value.bool (beq_iff_eq.2 h_20))) (hS.pick [3]) ?_
     refine K.DW.done (by kernel_rfl) ?_
     refine K.t (K.h (K.s (K.g (K.q [.bool true] (K.z (K.t (K.g (K.q [.pointer (some ⟨r_1, 2, none⟩)] ?_))))))))
     refine K.d (.slice (some ⟨b_18, of_19, none⟩) ma.length cm) ((hS.blk 3 rfl hg_3).cell rfl) ?_
     refine K.q [K.iv ((j : Nat) : Int)] ?_
     refine K.a (K.QR.ix (of_19 + j * 2) 2 rfl rfl rfl Try.underlying28 (by kernel_rfl) (by omega) (by first | (simp; done) | omega | (simp; omega))) ?_
     refine K.q [.pointer (some ⟨b_18, of_19 + j * 2 + 1, none⟩)] ?_
     refine K.d (.int .u32 ((ma.getD j p0).val)) ((x3.no hS.chg).ld j (by omega) 1 _ rfl) ?_
     refine K.q [.int .u32 ((ma.getD j p0).val)] (K.z ?_)
     refine K.blk_normal ?_
     refine K.t (K.g (K.q [K.iv ((j : Nat) : Int)] ?_))
     refine K.a (K.QR.n64 ((((j : Nat) : Int) : Int) + (1 : Int)) ((j + 1 : Nat) : Int) (by kernel_rfl) (by omega)) ?_
     refine K.q [K.iv ((j + 1 : Nat) : Int)] (K.z (K.t ?_))
     refine ⟨_, ?_, j + 1, true, (ma.getD j p0).val, rfl, ⟨by rfl, by rfl, by rfl, by rfl, by rfl, by rfl, by rfl, by rfl, by rfl, by rfl, trivial⟩, (by omega), ((anyT_next (d := p0) hf (by omega)).trans (any_y2 _ (by assumption))), (last_y (by omega) (by assumption)), hS.pick [0, 1, 2, 3, 4]⟩
     omega
    ·
     refine K.c 8 rfl (K.QR.nice (v := .bool (((ma.getD j p0).key : Int) == (key : Int))) (by kernel_rfl) (congrArg Value.bool (beq_eq_false_iff_ne.2 h_20))) (hS.pick [3]) ?_
     refine K.DW.done (by kernel_rfl) ?_
     refine K.t (K.f (K.k ?_))
     refine K.blk_normal ?_
     refine K.t (K.g (K.q [K.iv ((j : Nat) : Int)] ?_))
     refine K.a (K.QR.n64 ((((j : Nat) : Int) : Int) + (1 : Int)) ((j + 1 : Nat) : Int) (by kernel_rfl) (by omega)) ?_
     refine K.q [K.iv ((j + 1 : Nat) : Int)] (K.z (K.t ?_))
     refine ⟨_, ?_, j + 1, false, vv, rfl, ⟨by rfl, by rfl, by rfl, by rfl, by rfl, by rfl, by rfl, by rfl, by rfl, by rfl, trivial⟩, (by omega), ((anyT_next (d := p0) hf (by omega)).trans (any_n2 _ (by assumption))), (last_n hv (by omega) (by assumption)), hS.pick [0, 1, 2, 3, 4]⟩
     omega
   ·
    refine K.x ((((j : Nat) : Int) : Int) < (((ma.length : Nat) : Int) : Int)) h_17 ?_
    refine K.q [.bool false] (K.z (K.t (K.f ?_)))
    refine K.KW.exit ?_
    refine K.thn_exit ?_
    refine K.thn_exit ?_
    refine K.blk_hit ?_
    refine K.t (K.s (K.s (K.g (K.q [K.pa r_4] ?_))))
    refine K.d (K.iv 7) ((hS.blk 2 rfl hg_6).cell rfl) ?_
    refine K.q [.bool false, .bool false, K.pa r_4] ?_
    refine K.d (K.iv 7) ((hS.blk 2 rfl hg_6).cell rfl) ?_
    refine K.q [.bool false, .bool false] (K.z (K.t (K.f (K.k (K.t (K.s (K.s (K.g (K.q [.bool false, .bool false] (K.n_ (K.n_ (K.n_ (K.q [.bool false, .bool false] (K.n_ ?_))))))))))))))
    refine K.n_ (K.n_ (K.q [.bool false] (K.z (K.t (K.f (K.k (K.t (K.s (K.s (K.g (K.q [.bool false, .bool true, .bool true, K.pa r_4] ?_)))))))))))
    refine K.d (K.iv 7) ((hS.blk 2 rfl hg_6).cell rfl) ?_
    refine K.q [.bool true, .bool true, .bool true, K.pa r_4] ?_
    refine K.d (K.iv 7) ((hS.blk 2 rfl hg_6).cell rfl) ?_
    refine K.q [.bool true, .bool true] (K.z (K.t (K.h (K.s (K.g ?_)))))
    refine K.a (K.QR.ldN [.slice q qa.length cq, .slice s sa.length cs, .slice m ma.length cm] rfl rfl (by kernel_rfl) (by kernel_rfl) (K.cells (K.cl ((hS.blk 3 rfl hg_3).cell rfl) (K.cl ((hS.blk 3 rfl hg_3).cell rfl) (K.cl ((hS.blk 3 rfl hg_3).cell rfl) K.cl0))))) ?_
    refine K.a (K.QR.bd [(0, K.iv 4)] [K.iv 4, .int .u32 0] rfl rfl (by kernel_rfl)) ?_
    refine K.l (K.OW.gst 1 [.slice q qa.length cq, .slice s sa.length cs, .slice m ma.length cm] _ hS hg_9 ?_)
    clear hS; intro w g_21 hg_22 hS
    replace hS : K.Sat w0 [g_11, g_21, g_5, g_2, fr] w := hS
    refine K.l (K.OW.gst 0 [K.iv 4, .int .u32 0] _ hS hg_12 ?_)
    clear hS; intro w g_23 hg_24 hS
    replace hS : K.Sat w0 [g_23, g_21, g_5, g_2, fr] w := hS
    refine K.z (K.t (K.r (K.u ?_)))
    have hany : anyT PairM.key key ma = false := by have h := hf; rw [List.take_of_length_le (by omega)] at h; exact h
    have hlast : vv = (lastT PairM.key key p0 ma).val := by have h := hv; rw [List.take_of_length_le (by omega)] at h; exact h
    have hA : applyT ⟨qa, sa, ma⟩ 7 key val = (⟨qa, sa, ma⟩, 4, 0) := by rw [apM hr2 (by decide), hany, ← hlast]; rfl
    rw [hA]
    refine ⟨.inr rfl, rfl, (.tuple #[.agg #[.slice q qa.length cq, .slice s sa.length cs, .slice m ma.length cm], .agg #[K.iv 4, .int .u32 0]]), K.resAt (rs := [.cell 4 30, .cell 5 49]) [.agg #[.slice q qa.length cq, .slice s sa.length cs, .slice m ma.length cm], .agg #[K.iv 4, .int .u32 0]] rfl ⟨⟨_, rfl, K.lvN [.slice q qa.length cq, .slice s sa.length cs, .slice m ma.length cm] (by kernel_rfl) (by kernel_rfl) (K.cells (K.cl ((hS.blk 1 rfl hg_22).cell rfl) (K.cl ((hS.blk 1 rfl hg_22).cell rfl) (K.cl ((hS.blk 1 rfl hg_22).cell rfl) K.cl0))))⟩, ⟨_, rfl, K.lvN [K.iv 4, .int .u32 0] (by kernel_rfl) (by kernel_rfl) (K.cells (K.cl ((hS.blk 0 rfl hg_24).cell rfl) (K.cl ((hS.blk 0 rfl hg_24).cell rfl) K.cl0)))⟩, trivial⟩, [], ?_, hS.pick [4]⟩
    exact ⟨_, rfl, .inr (.inr (.inr (.inl ⟨rfl, rfl, rfl⟩)))⟩
  ·
   refine K.s (K.s (K.g (K.q [K.pa r_4] ?_)))
   refine K.d (K.iv 7) ((hS.blk 2 rfl hg_6).cell rfl) ?_
   refine K.q [.bool true, .bool true, K.pa r_4] ?_
   refine K.d (K.iv 7) ((hS.blk 2 rfl hg_6).cell rfl) ?_
   refine K.q [.bool true, .bool true, .bool true, K.iv ((j : Nat) : Int), .pointer (some ⟨r_1, 2, none⟩)] ?_
   refine K.d (.slice m ma.length cm) ((hS.blk 3 rfl hg_3).cell rfl) ?_
   refine K.a (K.QR.len (P := Try.prog) rfl rfl Try.underlying28) ?_
   by_cases h_25 : (((j : Nat) : Int) : Int) < (((ma.length : Nat) : Int) : Int)
   ·
    refine K.y ((((j : Nat) : Int) : Int) < (((ma.length : Nat) : Int) : Int)) h_25 ?_
    refine K.q [.bool true] (K.z (K.t (K.h (K.k (K.t (K.s ?_))))))
    refine K.KW.block ?_
    refine K.s ?_
    obtain ⟨b_26, of_27, rfl, _⟩ := x3.at_ (by omega)
    refine K.KW.gdrawn [3] hS (by kernel_rfl) ?_
    clear hS; intro w hS
    refine K.p 0 rfl (.pointer (some ⟨r_1, 2, none⟩)) (hS.pick [3]) ?_
    refine K.o_ 1 rfl (.slice (some ⟨b_26, of_27, none⟩) ma.length cm) (fun w hS => ((hS.blk 0 rfl hg_3).cell rfl)) (hS.pick [3]) ?_
    refine K.p 2 rfl (K.iv ((j : Nat) : Int)) (hS.pick [3]) ?_
    refine K.m 3 rfl (fun w hS => K.QR.ix (of_27 + j * 2) 2 rfl rfl rfl Try.underlying28 (by kernel_rfl) (by omega) (by first | (simp; done) | omega | (simp; omega))) (hS.pick [3]) ?_
    refine K.p 4 rfl (.pointer (some ⟨b_26, of_27 + j * 2, none⟩)) (hS.pick [3]) ?_
    refine K.o_ 5 rfl (.int .u32 ((ma.getD j p0).key)) (fun w hS => ((x3.no hS.chg).ld j (by omega) 0 _ rfl)) (hS.pick [3]) ?_
    refine K.b 6 rfl (.pointer (some ⟨r_4, 1, none⟩)) (hS.pick [3]) ?_
    refine K.c 7 rfl (K.QR.ld1 (v := .int .u32 key) rfl rfl (by kernel_rfl) ((hS.blk 2 rfl hg_6).cell rfl)) (hS.pick [3]) ?_
    by_cases h_28 : ((ma.getD j p0).key : Int) = (key : Int)
    ·
     refine K.c 8 rfl (K.QR.nice (v := .bool (((ma.getD j p0).key : Int) == (key : Int))) (by kernel_rfl) (congrArg Value.bool (beq_iff_eq.2 h_28))) (hS.pick [3]) ?_
     refine K.DW.done (by kernel_rfl) ?_
     refine K.t (K.h (K.s (K.g (K.q [.bool true] (K.z (K.t (K.g (K.q [.pointer (some ⟨r_1, 2, none⟩)] ?_))))))))
     refine K.d (.slice (some ⟨b_26, of_27, none⟩) ma.length cm) ((hS.blk 3 rfl hg_3).cell rfl) ?_
     refine K.q [K.iv ((j : Nat) : Int)] ?_
     refine K.a (K.QR.ix (of_27 + j * 2) 2 rfl rfl rfl Try.underlying28 (by kernel_rfl) (by omega) (by first | (simp; done) | omega | (simp; omega))) ?_
     refine K.q [.pointer (some ⟨b_26, of_27 + j * 2 + 1, none⟩)] ?_
     refine K.d (.int .u32 ((ma.getD j p0).val)) ((x3.no hS.chg).ld j (by omega) 1 _ rfl) ?_
     refine K.q [.int .u32 ((ma.getD j p0).val)] (K.z ?_)
     refine K.blk_normal ?_
     refine K.t (K.g (K.q [K.iv ((j : Nat) : Int)] ?_))
     refine K.a (K.QR.n64 ((((j : Nat) : Int) : Int) + (1 : Int)) ((j + 1 : Nat) : Int) (by kernel_rfl) (by omega)) ?_
     refine K.q [K.iv ((j + 1 : Nat) : Int)] (K.z (K.t ?_))
     refine ⟨_, ?_, j + 1, true, (ma.getD j p0).val, rfl, ⟨by rfl, by rfl, by rfl, by rfl, by rfl, by rfl, by rfl, by rfl, by rfl, by rfl, trivial⟩, (by omega), ((anyT_next (d := p0) hf (by omega)).trans (any_y2 _ (by assumption))), (last_y (by omega) (by assumption)), hS.pick [0, 1, 2, 3, 4]⟩
     omega
    ·
     refine K.c 8 rfl (K.QR.nice (v := .bool (((ma.getD j p0).key : Int) == (key : Int))) (by kernel_rfl) (congrArg Value.bool (beq_eq_false_iff_ne.2 h_28))) (hS.pick [3]) ?_
     refine K.DW.done (by kernel_rfl) ?_
     refine K.t (K.f (K.k ?_))
     refine K.blk_normal ?_
     refine K.t (K.g (K.q [K.iv ((j : Nat) : Int)] ?_))
     refine K.a (K.QR.n64 ((((j : Nat) : Int) : Int) + (1 : Int)) ((j + 1 : Nat) : Int) (by kernel_rfl) (by omega)) ?_
     refine K.q [K.iv ((j + 1 : Nat) : Int)] (K.z (K.t ?_))
     refine ⟨_, ?_, j + 1, true, vv, rfl, ⟨by rfl, by rfl, by rfl, by rfl, by rfl, by rfl, by rfl, by rfl, by rfl, by rfl, trivial⟩, (by omega), ((anyT_next (d := p0) hf (by omega)).trans (any_n2 _ (by assumption))), (last_n hv (by omega) (by assumption)), hS.pick [0, 1, 2, 3, 4]⟩
     omega
   ·
    refine K.x ((((j : Nat) : Int) : Int) < (((ma.length : Nat) : Int) : Int)) h_25 ?_
    refine K.q [.bool false] (K.z (K.t (K.f ?_)))
    refine K.KW.exit ?_
    refine K.thn_exit ?_
    refine K.thn_exit ?_
    refine K.blk_hit ?_
    refine K.t (K.s (K.s (K.g (K.q [K.pa r_4] ?_))))
    refine K.d (K.iv 7) ((hS.blk 2 rfl hg_6).cell rfl) ?_
    refine K.q [.bool false, .bool false, K.pa r_4] ?_
    refine K.d (K.iv 7) ((hS.blk 2 rfl hg_6).cell rfl) ?_
    refine K.q [.bool false, .bool false] (K.z (K.t (K.f (K.k (K.t (K.s (K.s (K.g (K.q [.bool true, .bool true, K.pa r_4] ?_)))))))))
    refine K.d (K.iv 7) ((hS.blk 2 rfl hg_6).cell rfl) ?_
    refine K.q [.bool true, .bool true, .bool true, K.pa r_4] ?_
    refine K.d (K.iv 7) ((hS.blk 2 rfl hg_6).cell rfl) ?_
    refine K.q [.bool true, .bool true] (K.z (K.t (K.h (K.s (K.g ?_)))))
    refine K.a (K.QR.ldN [.slice q qa.length cq, .slice s sa.length cs, .slice m ma.length cm] rfl rfl (by kernel_rfl) (by kernel_rfl) (K.cells (K.cl ((hS.blk 3 rfl hg_3).cell rfl) (K.cl ((hS.blk 3 rfl hg_3).cell rfl) (K.cl ((hS.blk 3 rfl hg_3).cell rfl) K.cl0))))) ?_
    refine K.q [.int .u32 vv] ?_
    refine K.a (K.QR.bd [(0, K.iv 3), (1, .int .u32 vv)] [K.iv 3, .int .u32 vv] rfl rfl (by kernel_rfl)) ?_
    refine K.l (K.OW.gst 1 [.slice q qa.length cq, .slice s sa.length cs, .slice m ma.length cm] _ hS hg_9 ?_)
    clear hS; intro w g_29 hg_30 hS
    replace hS : K.Sat w0 [g_11, g_29, g_5, g_2, fr] w := hS
    refine K.l (K.OW.gst 0 [K.iv 3, .int .u32 vv] _ hS hg_12 ?_)
    clear hS; intro w g_31 hg_32 hS
    replace hS : K.Sat w0 [g_31, g_29, g_5, g_2, fr] w := hS
    refine K.z (K.t (K.r (K.u ?_)))
    have hany : anyT PairM.key key ma = true := by have h := hf; rw [List.take_of_length_le (by omega)] at h; exact h
    have hlast : vv = (lastT PairM.key key p0 ma).val := by have h := hv; rw [List.take_of_length_le (by omega)] at h; exact h
    have hA : applyT ⟨qa, sa, ma⟩ 7 key val = (⟨qa, sa, ma⟩, 3, vv) := by rw [apM hr2 (by decide), hany, ← hlast]; rfl
    rw [hA]
    refine ⟨.inr rfl, rfl, (.tuple #[.agg #[.slice q qa.length cq, .slice s sa.length cs, .slice m ma.length cm], .agg #[K.iv 3, .int .u32 vv]]), K.resAt (rs := [.cell 4 30, .cell 5 49]) [.agg #[.slice q qa.length cq, .slice s sa.length cs, .slice m ma.length cm], .agg #[K.iv 3, .int .u32 vv]] rfl ⟨⟨_, rfl, K.lvN [.slice q qa.length cq, .slice s sa.length cs, .slice m ma.length cm] (by kernel_rfl) (by kernel_rfl) (K.cells (K.cl ((hS.blk 1 rfl hg_30).cell rfl) (K.cl ((hS.blk 1 rfl hg_30).cell rfl) (K.cl ((hS.blk 1 rfl hg_30).cell rfl) K.cl0))))⟩, ⟨_, rfl, K.lvN [K.iv 3, .int .u32 vv] (by kernel_rfl) (by kernel_rfl) (K.cells (K.cl ((hS.blk 0 rfl hg_32).cell rfl) (K.cl ((hS.blk 0 rfl hg_32).cell rfl) K.cl0)))⟩, trivial⟩, [], ?_, hS.pick [4]⟩
    exact ⟨_, rfl, .inr (.inr (.inr (.inl ⟨rfl, rfl, rfl⟩)))⟩
set_option maxHeartbeats 1000000 in
set_option maxRecDepth 100000 in
theorem rapplyB8_ok (w0 : World) (q s m : Option Addr) (cq cs cm : Nat) (qa sa : List Int) (ma : List PairM) (key val : Int) (h1 : qa.length ≤ 1000000) (h2 : sa.length ≤ 1000000) (h3 : ma.length ≤ 1000000) (hr1 : rising sa) (hr2 : rising (keysP ma)) (hc : qa.length ≤ cq) (x1 : RU32 w0 q qa) (x2 : RU32 w0 s sa) (x3 : RPr w0 m ma) :
  K.GC Try.prog w0 31 #[.agg #[.slice q qa.length cq, .slice s sa.length cs, .slice m ma.length cm], .agg #[K.iv 8, .int .u32 key, .int .u32 val]] [] (ApB q s m cq cs cm qa sa ma (applyT ⟨qa, sa, ma⟩ 8 key val)) := by
 refine K.GC.mk (n := 192) Try.func31 rfl rfl [.agg #[.slice q qa.length cq, .slice s sa.length cs, .slice m ma.length cm], .agg #[K.iv 8, .int .u32 key, .int .u32 val]] rfl rfl ?_
 intro fr w hS
 replace hS : K.Sat w0 [fr] w := hS
 refine K.s (K.g ?_)
 refine K.l (K.OW.gnew 30 [.slice q qa.length cq, .slice s sa.length cs, .slice m ma.length cm] hS ?_)
 clear hS; intro w r_1 g_2 hg_3 hS
 refine K.l (K.OW.gnew 47 [K.iv 8, .int .u32 key, .int .u32 val] hS ?_)
 clear hS; intro w r_4 g_5 hg_6 hS
 refine K.l (K.OW.gnew 30 [.slice none 0 0, .slice none 0 0, .slice none 0 0] hS ?_)
 clear hS; intro w r_7 g_8 hg_9 hS
 refine K.l (K.OW.gnew 49 [K.iv 0, .int .u32 0] hS ?_)
 clear hS; intro w r_10 g_11 hg_12 hS
 refine K.z (K.t (K.s (K.s (K.g (K.q [K.pa r_4] ?_)))))
 refine K.d (K.iv 8) ((hS.blk 2 rfl hg_6).cell rfl) ?_
 refine K.q [.bool false] (K.z (K.t (K.f (K.k (K.t (K.s (K.s (K.g (K.q [K.pa r_4] ?_)))))))))
 refine K.d (K.iv 8) ((hS.blk 2 rfl hg_6).cell rfl) ?_
 refine K.q [.bool false, .bool false] (K.n_ (K.n_ (K.n_ (K.n_ (K.q [.bool false] (K.z (K.t (K.f (K.k (K.t (K.s (K.s (K.g (K.q [K.pa r_4] ?_))))))))))))))
 refine K.d (K.iv 8) ((hS.blk 2 rfl hg_6).cell rfl) ?_
 refine K.q [.bool false] (K.z (K.t (K.f (K.k (K.t (K.s (K.g (K.q [.bool false] (K.z (K.t (K.s (K.s (K.g (K.q [K.iv 0] ?_))))))))))))))
 refine K.z (K.t ?_)
 refine K.KW.block ?_
 refine K.KW.unr 0 ?_
 refine K.Unr.zero ?_
 refine K.s (K.s (K.g (K.q [K.pa r_4] ?_)))
 refine K.d (K.iv 8) ((hS.blk 2 rfl hg_6).cell rfl) ?_
 refine K.q [.bool true, .bool true, K.pa r_4] ?_
 refine K.d (K.iv 8) ((hS.blk 2 rfl hg_6).cell rfl) ?_
 refine K.q [.bool false, .bool false, .bool false] (K.n_ (K.n_ (K.n_ (K.n_ (K.n_ (K.q [.bool false] (K.z (K.t (K.f ?_)))))))))
 refine K.KW.exit ?_
 refine K.thn_exit ?_
 refine K.thn_exit ?_
 refine K.blk_hit ?_
 refine K.t (K.s (K.g (K.q [.int .u32 0] (K.z (K.t (K.s (K.s (K.g (K.q [K.iv 0] (K.z (K.t ?_)))))))))))
 refine K.KW.block ?_
 refine K.KW.loop (fun m_ F_ w_ => ∃ (j : Nat) (f : Bool) (vv : Int), m_ = ma.length - j ∧ K.Sl F_ [(0, .agg #[.slice q qa.length cq, .slice s sa.length cs, .slice m ma.length cm]), (1, .agg #[K.iv 8, .int .u32 key, .int .u32 val]), (2, K.pa r_1), (3, K.pa r_4), (4, K.pa r_7), (5, K.pa r_10), (9, .bool f), (11, .int .u32 vv), (12, K.iv ((j : Nat) : Int)), (192, undef)] ∧ j ≤ ma.length ∧ anyT PairM.key key (ma.take j) = f ∧ vv = (lastT PairM.key key p0 (ma.take j)).val ∧ K.Sat w0 [g_11, g_8, g_5, g_2, fr] w_) ((fun (j : Nat) (f : Bool) (vv : Int) => ma.length - j) 0 false 0) ?_ ?_
 ·
  exact ⟨0, false, 0, rfl, ⟨by rfl, by rfl, by rfl, by rfl, by rfl, by rfl, by rfl, by rfl, by rfl, by rfl, trivial⟩, (by omega), (rfl), (rfl), hS.pick [0, 1, 2, 3, 4]⟩
 ·
  clear hS
  intro m_13 F_14 w hI
  obtain ⟨j, f, vv, rfl, sl_15, p_16, hf, hv, hS⟩ := hI
  rw [← K.Sl.puts sl_15]; clear sl_15
  cases f
  ·
   refine K.s (K.s (K.g (K.q [K.pa r_4] ?_)))
   refine K.d (K.iv 8) ((hS.blk 2 rfl hg_6).cell rfl) ?_
   refine K.q [.bool true, .bool true, K.pa r_4] ?_
   refine K.d (K.iv 8) ((hS.blk 2 rfl hg_6).cell rfl) ?_
   refine K.q [.bool true, .bool true, .bool true, K.iv ((j : Nat) : Int), .pointer (some ⟨r_1, 2, none⟩)] ?_
   refine K.d (.slice m ma.length cm) ((hS.blk 3 rfl hg_3).cell rfl) ?_
   refine K.a (K.QR.len (P := Try.prog) rfl rfl Try.underlying28) ?_
   by_cases h_17 : (((j : Nat) : Int) : Int) < (((ma.length : Nat) : Int) : Int)
   ·
    refine K.y ((((j : Nat) : Int) : Int) < (((ma.length : Nat) : Int) : Int)) h_17 ?_
    refine K.q [.bool true] (K.z (K.t (K.h (K.k (K.t (K.s ?_))))))
    refine K.KW.block ?_
    refine K.s ?_
    obtain ⟨b_18, of_19, rfl, _⟩ := x3.at_ (by omega)
    refine K.KW.gdrawn [3] hS (by kernel_rfl) ?_
    clear hS; intro w hS
    refine K.p 0 rfl (.pointer (some ⟨r_1, 2, none⟩)) (hS.pick [3]) ?_
    refine K.o_ 1 rfl (.slice (some ⟨b_18, of_19, none⟩) ma.length cm) (fun w hS => ((hS.blk 0 rfl hg_3).cell rfl)) (hS.pick [3]) ?_
    refine K.p 2 rfl (K.iv ((j : Nat) : Int)) (hS.pick [3]) ?_
    refine K.m 3 rfl (fun w hS => K.QR.ix (of_19 + j * 2) 2 rfl rfl rfl Try.underlying28 (by kernel_rfl) (by omega) (by first | (simp; done) | omega | (simp; omega))) (hS.pick [3]) ?_
    refine K.p 4 rfl (.pointer (some ⟨b_18, of_19 + j * 2, none⟩)) (hS.pick [3]) ?_
    refine K.o_ 5 rfl (.int .u32 ((ma.getD j p0).key)) (fun w hS => ((x3.no hS.chg).ld j (by omega) 0 _ rfl)) (hS.pick [3]) ?_
    refine K.b 6 rfl (.pointer (some ⟨r_4, 1, none⟩)) (hS.pick [3]) ?_
    refine K.c 7 rfl (K.QR.ld1 (v := .int .u32 key) rfl rfl (by kernel_rfl) ((hS.blk 2 rfl hg_6).cell rfl)) (hS.pick [3]) ?_
    by_cases h_20 : ((ma.getD j p0).key : Int) = (key : Int)
    ·
     refine K.c 8 rfl (K.QR.nice (v := .bool (((ma.getD j p0).key : Int) == (key : Int))) (by kernel_rfl) (congrArg Value.bool (beq_iff_eq.2 h_20))) (hS.pick [3]) ?_
     refine K.DW.done (by kernel_rfl) ?_
     refine K.t (K.h (K.s (K.g (K.q [.bool true] (K.z (K.t (K.g (K.q [.pointer (some ⟨r_1, 2, none⟩)] ?_))))))))
     refine K.d (.slice (some ⟨b_18, of_19, none⟩) ma.length cm) ((hS.blk 3 rfl hg_3).cell rfl) ?_
     refine K.q [K.iv ((j : Nat) : Int)] ?_
     refine K.a (K.QR.ix (of_19 + j * 2) 2 rfl rfl rfl Try.underlying28 (by kernel_rfl) (by omega) (by first | (simp; done) | omega | (simp; omega))) ?_
     refine K.q [.pointer (some ⟨b_18, of_19 + j * 2 + 1, none⟩)] ?_
     refine K.d (.int .u32 ((ma.getD j p0).val)) ((x3.no hS.chg).ld j (by omega) 1 _ rfl) ?_
     refine K.q [.int .u32 ((ma.getD j p0).val)] (K.z ?_)
     refine K.blk_normal ?_
     refine K.t (K.g (K.q [K.iv ((j : Nat) : Int)] ?_))
     refine K.a (K.QR.n64 ((((j : Nat) : Int) : Int) + (1 : Int)) ((j + 1 : Nat) : Int) (by kernel_rfl) (by omega)) ?_
     refine K.q [K.iv ((j + 1 : Nat) : Int)] (K.z (K.t ?_))
     refine ⟨_, ?_, j + 1, true, (ma.getD j p0).val, rfl, ⟨by rfl, by rfl, by rfl, by rfl, by rfl, by rfl, by rfl, by rfl, by rfl, by rfl, trivial⟩, (by omega), ((anyT_next (d := p0) hf (by omega)).trans (any_y2 _ (by assumption))), (last_y (by omega) (by assumption)), hS.pick [0, 1, 2, 3, 4]⟩
     omega
    ·
     refine K.c 8 rfl (K.QR.nice (v := .bool (((ma.getD j p0).key : Int) == (key : Int))) (by kernel_rfl) (congrArg Value.bool (beq_eq_false_iff_ne.2 h_20))) (hS.pick [3]) ?_
     refine K.DW.done (by kernel_rfl) ?_
     refine K.t (K.f (K.k ?_))
     refine K.blk_normal ?_
     refine K.t (K.g (K.q [K.iv ((j : Nat) : Int)] ?_))
     refine K.a (K.QR.n64 ((((j : Nat) : Int) : Int) + (1 : Int)) ((j + 1 : Nat) : Int) (by kernel_rfl) (by omega)) ?_
     refine K.q [K.iv ((j + 1 : Nat) : Int)] (K.z (K.t ?_))
     refine ⟨_, ?_, j + 1, false, vv, rfl, ⟨by rfl, by rfl, by rfl, by rfl, by rfl, by rfl, by rfl, by rfl, by rfl, by rfl, trivial⟩, (by omega), ((anyT_next (d := p0) hf (by omega)).trans (any_n2 _ (by assumption))), (last_n hv (by omega) (by assumption)), hS.pick [0, 1, 2, 3, 4]⟩
     omega
   ·
    refine K.x ((((j : Nat) : Int) : Int) < (((ma.length : Nat) : Int) : Int)) h_17 ?_
    refine K.q [.bool false] (K.z (K.t (K.f ?_)))
    refine K.KW.exit ?_
    refine K.thn_exit ?_
    refine K.thn_exit ?_
    refine K.blk_hit ?_
    refine K.t (K.s (K.s (K.g (K.q [K.pa r_4] ?_))))
    refine K.d (K.iv 8) ((hS.blk 2 rfl hg_6).cell rfl) ?_
    refine K.q [.bool false, .bool false, K.pa r_4] ?_
    refine K.d (K.iv 8) ((hS.blk 2 rfl hg_6).cell rfl) ?_
    refine K.q [.bool false, .bool false] (K.z (K.t (K.f (K.k (K.t (K.s (K.s (K.g (K.q [.bool false, .bool false] (K.n_ (K.n_ (K.n_ (K.q [.bool false, .bool false] (K.n_ ?_))))))))))))))
    refine K.n_ (K.n_ (K.q [.bool false] (K.z (K.t (K.f (K.k (K.t (K.s (K.s (K.g (K.q [.bool false, .bool true, .bool true, K.pa r_4] ?_)))))))))))
    refine K.d (K.iv 8) ((hS.blk 2 rfl hg_6).cell rfl) ?_
    refine K.q [.bool true, .bool true, .bool true, K.pa r_4] ?_
    refine K.d (K.iv 8) ((hS.blk 2 rfl hg_6).cell rfl) ?_
    refine K.q [.bool true, .bool true] (K.z (K.t (K.h (K.s (K.g ?_)))))
    refine K.a (K.QR.ldN [.slice q qa.length cq, .slice s sa.length cs, .slice m ma.length cm] rfl rfl (by kernel_rfl) (by kernel_rfl) (K.cells (K.cl ((hS.blk 3 rfl hg_3).cell rfl) (K.cl ((hS.blk 3 rfl hg_3).cell rfl) (K.cl ((hS.blk 3 rfl hg_3).cell rfl) K.cl0))))) ?_
    refine K.a (K.QR.bd [(0, K.iv 4)] [K.iv 4, .int .u32 0] rfl rfl (by kernel_rfl)) ?_
    refine K.l (K.OW.gst 1 [.slice q qa.length cq, .slice s sa.length cs, .slice m ma.length cm] _ hS hg_9 ?_)
    clear hS; intro w g_21 hg_22 hS
    replace hS : K.Sat w0 [g_11, g_21, g_5, g_2, fr] w := hS
    refine K.l (K.OW.gst 0 [K.iv 4, .int .u32 0] _ hS hg_12 ?_)
    clear hS; intro w g_23 hg_24 hS
    replace hS : K.Sat w0 [g_23, g_21, g_5, g_2, fr] w := hS
    refine K.z (K.t (K.r (K.u ?_)))
    have hany : anyT PairM.key key ma = false := by have h := hf; rw [List.take_of_length_le (by omega)] at h; exact h
    have hlast : vv = (lastT PairM.key key p0 ma).val := by have h := hv; rw [List.take_of_length_le (by omega)] at h; exact h
    have hA : applyT ⟨qa, sa, ma⟩ 8 key val = (⟨qa, sa, ma⟩, 4, 0) := by rw [apM hr2 (by decide), hany, ← hlast]; rfl
    rw [hA]
    refine ⟨.inr rfl, rfl, (.tuple #[.agg #[.slice q qa.length cq, .slice s sa.length cs, .slice m ma.length cm], .agg #[K.iv 4, .int .u32 0]]), K.resAt (rs := [.cell 4 30, .cell 5 49]) [.agg #[.slice q qa.length cq, .slice s sa.length cs, .slice m ma.length cm], .agg #[K.iv 4, .int .u32 0]] rfl ⟨⟨_, rfl, K.lvN [.slice q qa.length cq, .slice s sa.length cs, .slice m ma.length cm] (by kernel_rfl) (by kernel_rfl) (K.cells (K.cl ((hS.blk 1 rfl hg_22).cell rfl) (K.cl ((hS.blk 1 rfl hg_22).cell rfl) (K.cl ((hS.blk 1 rfl hg_22).cell rfl) K.cl0))))⟩, ⟨_, rfl, K.lvN [K.iv 4, .int .u32 0] (by kernel_rfl) (by kernel_rfl) (K.cells (K.cl ((hS.blk 0 rfl hg_24).cell rfl) (K.cl ((hS.blk 0 rfl hg_24).cell rfl) K.cl0)))⟩, trivial⟩, [], ?_, hS.pick [4]⟩
    exact ⟨_, rfl, .inr (.inr (.inr (.inl ⟨rfl, rfl, rfl⟩)))⟩
  ·
   refine K.s (K.s (K.g (K.q [K.pa r_4] ?_)))
   refine K.d (K.iv 8) ((hS.blk 2 rfl hg_6).cell rfl) ?_
   refine K.q [.bool true, .bool true, K.pa r_4] ?_
   refine K.d (K.iv 8) ((hS.blk 2 rfl hg_6).cell rfl) ?_
   refine K.q [.bool true, .bool true, .bool true, K.iv ((j : Nat) : Int), .pointer (some ⟨r_1, 2, none⟩)] ?_
   refine K.d (.slice m ma.length cm) ((hS.blk 3 rfl hg_3).cell rfl) ?_
   refine K.a (K.QR.len (P := Try.prog) rfl rfl Try.underlying28) ?_
   by_cases h_25 : (((j : Nat) : Int) : Int) < (((ma.length : Nat) : Int) : Int)
   ·
    refine K.y ((((j : Nat) : Int) : Int) < (((ma.length : Nat) : Int) : Int)) h_25 ?_
    refine K.q [.bool true] (K.z (K.t (K.h (K.k (K.t (K.s ?_))))))
    refine K.KW.block ?_
    refine K.s ?_
    obtain ⟨b_26, of_27, rfl, _⟩ := x3.at_ (by omega)
    refine K.KW.gdrawn [3] hS (by kernel_rfl) ?_
    clear hS; intro w hS
    refine K.p 0 rfl (.pointer (some ⟨r_1, 2, none⟩)) (hS.pick [3]) ?_
    refine K.o_ 1 rfl (.slice (some ⟨b_26, of_27, none⟩) ma.length cm) (fun w hS => ((hS.blk 0 rfl hg_3).cell rfl)) (hS.pick [3]) ?_
    refine K.p 2 rfl (K.iv ((j : Nat) : Int)) (hS.pick [3]) ?_
    refine K.m 3 rfl (fun w hS => K.QR.ix (of_27 + j * 2) 2 rfl rfl rfl Try.underlying28 (by kernel_rfl) (by omega) (by first | (simp; done) | omega | (simp; omega))) (hS.pick [3]) ?_
    refine K.p 4 rfl (.pointer (some ⟨b_26, of_27 + j * 2, none⟩)) (hS.pick [3]) ?_
    refine K.o_ 5 rfl (.int .u32 ((ma.getD j p0).key)) (fun w hS => ((x3.no hS.chg).ld j (by omega) 0 _ rfl)) (hS.pick [3]) ?_
    refine K.b 6 rfl (.pointer (some ⟨r_4, 1, none⟩)) (hS.pick [3]) ?_
    refine K.c 7 rfl (K.QR.ld1 (v := .int .u32 key) rfl rfl (by kernel_rfl) ((hS.blk 2 rfl hg_6).cell rfl)) (hS.pick [3]) ?_
    by_cases h_28 : ((ma.getD j p0).key : Int) = (key : Int)
    ·
     refine K.c 8 rfl (K.QR.nice (v := .bool (((ma.getD j p0).key : Int) == (key : Int))) (by kernel_rfl) (congrArg Value.bool (beq_iff_eq.2 h_28))) (hS.pick [3]) ?_
     refine K.DW.done (by kernel_rfl) ?_
     refine K.t (K.h (K.s (K.g (K.q [.bool true] (K.z (K.t (K.g (K.q [.pointer (some ⟨r_1, 2, none⟩)] ?_))))))))
     refine K.d (.slice (some ⟨b_26, of_27, none⟩) ma.length cm) ((hS.blk 3 rfl hg_3).cell rfl) ?_
     refine K.q [K.iv ((j : Nat) : Int)] ?_
     refine K.a (K.QR.ix (of_27 + j * 2) 2 rfl rfl rfl Try.underlying28 (by kernel_rfl) (by omega) (by first | (simp; done) | omega | (simp; omega))) ?_
     refine K.q [.pointer (some ⟨b_26, of_27 + j * 2 + 1, none⟩)] ?_
     refine K.d (.int .u32 ((ma.getD j p0).val)) ((x3.no hS.chg).ld j (by omega) 1 _ rfl) ?_
     refine K.q [.int .u32 ((ma.getD j p0).val)] (K.z ?_)
     refine K.blk_normal ?_
     refine K.t (K.g (K.q [K.iv ((j : Nat) : Int)] ?_))
     refine K.a (K.QR.n64 ((((j : Nat) : Int) : Int) + (1 : Int)) ((j + 1 : Nat) : Int) (by kernel_rfl) (by omega)) ?_
     refine K.q [K.iv ((j + 1 : Nat) : Int)] (K.z (K.t ?_))
     refine ⟨_, ?_, j + 1, true, (ma.getD j p0).val, rfl, ⟨by rfl, by rfl, by rfl, by rfl, by rfl, by rfl, by rfl, by rfl, by rfl, by rfl, trivial⟩, (by omega), ((anyT_next (d := p0) hf (by omega)).trans (any_y2 _ (by assumption))), (last_y (by omega) (by assumption)), hS.pick [0, 1, 2, 3, 4]⟩
     omega
    ·
     refine K.c 8 rfl (K.QR.nice (v := .bool (((ma.getD j p0).key : Int) == (key : Int))) (by kernel_rfl) (congrArg Value.bool (beq_eq_false_iff_ne.2 h_28))) (hS.pick [3]) ?_
     refine K.DW.done (by kernel_rfl) ?_
     refine K.t (K.f (K.k ?_))
     refine K.blk_normal ?_
     refine K.t (K.g (K.q [K.iv ((j : Nat) : Int)] ?_))
     refine K.a (K.QR.n64 ((((j : Nat) : Int) : Int) + (1 : Int)) ((j + 1 : Nat) : Int) (by kernel_rfl) (by omega)) ?_
     refine K.q [K.iv ((j + 1 : Nat) : Int)] (K.z (K.t ?_))
     refine ⟨_, ?_, j + 1, true, vv, rfl, ⟨by rfl, by rfl, by rfl, by rfl, by rfl, by rfl, by rfl, by rfl, by rfl, by rfl, trivial⟩, (by omega), ((anyT_next (d := p0) hf (by omega)).trans (any_n2 _ (by assumption))), (last_n hv (by omega) (by assumption)), hS.pick [0, 1, 2, 3, 4]⟩
     omega
   ·
    refine K.x ((((j : Nat) : Int) : Int) < (((ma.length : Nat) : Int) : Int)) h_25 ?_
    refine K.q [.bool false] (K.z (K.t (K.f ?_)))
    refine K.KW.exit ?_
    refine K.thn_exit ?_
    refine K.thn_exit ?_
    refine K.blk_hit ?_
    refine K.t (K.s (K.s (K.g (K.q [K.pa r_4] ?_))))
    refine K.d (K.iv 8) ((hS.blk 2 rfl hg_6).cell rfl) ?_
    refine K.q [.bool false, .bool false, K.pa r_4] ?_
    refine K.d (K.iv 8) ((hS.blk 2 rfl hg_6).cell rfl) ?_
    refine K.q [.bool false, .bool false] (K.z (K.t (K.f (K.k (K.t (K.s (K.s (K.g (K.q [.bool true, .bool true, K.pa r_4] ?_)))))))))
    refine K.d (K.iv 8) ((hS.blk 2 rfl hg_6).cell rfl) ?_
    refine K.q [.bool true, .bool true, .bool true, K.pa r_4] ?_
    refine K.d (K.iv 8) ((hS.blk 2 rfl hg_6).cell rfl) ?_
    refine K.q [.bool false, .bool false] (K.z (K.t (K.f (K.k (K.t (K.s (K.s (K.g (K.q [.bool true, .bool false, .bool false] (K.n_ (K.n_ (K.n_ (K.q [.bool false, .bool false] (K.n_ ?_))))))))))))))
    refine K.n_ (K.n_ (K.q [.bool false] (K.z (K.t (K.f (K.k (K.t (K.s (K.s (K.g (K.q [K.pa r_4] ?_)))))))))))
    refine K.d (K.iv 8) ((hS.blk 2 rfl hg_6).cell rfl) ?_
    refine K.q [.bool false] (K.z (K.t (K.f (K.k (K.t (K.s (K.g (K.q [.pointer (some ⟨r_1, 2, none⟩)] ?_))))))))
    refine K.d (.slice m ma.length cm) ((hS.blk 3 rfl hg_3).cell rfl) ?_
    refine K.q [.pointer (some ⟨r_4, 1, none⟩)] ?_
    refine K.d (.int .u32 key) ((hS.blk 2 rfl hg_6).cell rfl) ?_
    refine K.q [.pointer (some ⟨r_4, 2, none⟩)] ?_
    refine K.d (.int .u32 val) ((hS.blk 2 rfl hg_6).cell rfl) ?_
    refine K.a (K.QR.bd [(0, .int .u32 key), (1, .int .u32 val)] [.int .u32 key, .int .u32 val] rfl rfl (by kernel_rfl)) ?_
    refine K.q [K.pa r_4] ?_
    refine K.d (K.iv 8) ((hS.blk 2 rfl hg_6).cell rfl) ?_
    refine K.q [.bool false] ?_
    refine K.l (K.OW.gcall hS [55] [0, 1, 2, 3, 4] [.slice m ma.length cm, .agg #[.int .u32 key, .int .u32 val], .bool false] (prsF_ok _ _ _ ma key val (by omega) _ (fun w h => x3.no h.chg)) ?_)
    clear hS; rintro _ _ w ⟨r_29, c_30, l_31, rfl, rfl, o_32⟩ hS
    replace hS : K.Sat w0 [l_31, g_11, g_8, g_5, g_2, fr] w := hS.of (by simp [K.pick, K.nth])
    refine K.q [.pointer (some ⟨r_1, 2, none⟩)] ?_
    refine K.l (K.OW.gst 4 [.slice r_29 ((keysR PairM.key key ⟨key, val⟩ false ma).length) c_30] _ hS hg_3 ?_)
    clear hS; intro w g_33 hg_34 hS
    replace hS : K.Sat w0 [l_31, g_11, g_8, g_5, g_33, fr] w := hS
    refine K.z (K.t (K.s (K.g ?_)))
    refine K.a (K.QR.ldN [.slice q qa.length cq, .slice s sa.length cs, .slice r_29 ((keysR PairM.key key ⟨key, val⟩ false ma).length) c_30] rfl rfl (by kernel_rfl) (by kernel_rfl) (K.cells (K.cl ((hS.blk 4 rfl hg_34).cell rfl) (K.cl ((hS.blk 4 rfl hg_34).cell rfl) (K.cl ((hS.blk 4 rfl hg_34).cell rfl) K.cl0))))) ?_
    refine K.q [.int .u32 vv] ?_
    refine K.a (K.QR.bd [(0, K.iv 1), (1, .int .u32 vv)] [K.iv 1, .int .u32 vv] rfl rfl (by kernel_rfl)) ?_
    refine K.l (K.OW.gst 2 [.slice q qa.length cq, .slice s sa.length cs, .slice r_29 ((keysR PairM.key key ⟨key, val⟩ false ma).length) c_30] _ hS hg_9 ?_)
    clear hS; intro w g_35 hg_36 hS
    replace hS : K.Sat w0 [l_31, g_11, g_35, g_5, g_33, fr] w := hS
    refine K.l (K.OW.gst 1 [K.iv 1, .int .u32 vv] _ hS hg_12 ?_)
    clear hS; intro w g_37 hg_38 hS
    replace hS : K.Sat w0 [l_31, g_37, g_35, g_5, g_33, fr] w := hS
    refine K.z (K.t (K.r ?_))
    have hany : anyT PairM.key key ma = true := by have h := hf; rw [List.take_of_length_le (by omega)] at h; exact h
    have hlast : vv = (lastT PairM.key key p0 ma).val := by have h := hv; rw [List.take_of_length_le (by omega)] at h; exact h
    have hA : applyT ⟨qa, sa, ma⟩ 8 key val = (⟨qa, sa, (keysR PairM.key key ⟨key, val⟩ false ma)⟩, 1, vv) := by rw [apM hr2 (by decide), hany, ← hlast]; rfl
    rw [hA]
    refine ⟨.inr rfl, rfl, (.tuple #[.agg #[.slice q qa.length cq, .slice s sa.length cs, .slice r_29 ((keysR PairM.key key ⟨key, val⟩ false ma).length) c_30], .agg #[K.iv 1, .int .u32 vv]]), K.resAt (rs := [.cell 4 30, .cell 5 49]) [.agg #[.slice q qa.length cq, .slice s sa.length cs, .slice r_29 ((keysR PairM.key key ⟨key, val⟩ false ma).length) c_30], .agg #[K.iv 1, .int .u32 vv]] rfl ⟨⟨_, rfl, K.lvN [.slice q qa.length cq, .slice s sa.length cs, .slice r_29 ((keysR PairM.key key ⟨key, val⟩ false ma).length) c_30] (by kernel_rfl) (by kernel_rfl) (K.cells (K.cl ((hS.blk 2 rfl hg_36).cell rfl) (K.cl ((hS.blk 2 rfl hg_36).cell rfl) (K.cl ((hS.blk 2 rfl hg_36).cell rfl) K.cl0))))⟩, ⟨_, rfl, K.lvN [K.iv 1, .int .u32 vv] (by kernel_rfl) (by kernel_rfl) (K.cells (K.cl ((hS.blk 1 rfl hg_38).cell rfl) (K.cl ((hS.blk 1 rfl hg_38).cell rfl) K.cl0)))⟩, trivial⟩, [l_31], ?_, hS.pick [0, 5]⟩
    exact ⟨_, rfl, .inr (.inr (.inl ⟨_, _, _, rfl, o_32, rfl, rfl, rfl⟩))⟩
set_option maxHeartbeats 1000000 in
set_option maxRecDepth 100000 in
theorem rapplyBN_ok (w0 : World) (q s m : Option Addr) (cq cs cm : Nat) (qa sa : List Int) (ma : List PairM) (kind key val : Int) (hkk : ¬(1 ≤ kind ∧ kind ≤ 8)) (h1 : qa.length ≤ 1000000) (h2 : sa.length ≤ 1000000) (h3 : ma.length ≤ 1000000) (hr1 : rising sa) (hr2 : rising (keysP ma)) (hc : qa.length ≤ cq) (x1 : RU32 w0 q qa) (x2 : RU32 w0 s sa) (x3 : RPr w0 m ma) :
  K.GC Try.prog w0 31 #[.agg #[.slice q qa.length cq, .slice s sa.length cs, .slice m ma.length cm], .agg #[K.iv kind, .int .u32 key, .int .u32 val]] [] (ApB q s m cq cs cm qa sa ma (applyT ⟨qa, sa, ma⟩ kind key val)) := by
 refine K.GC.mk (n := 192) Try.func31 rfl rfl [.agg #[.slice q qa.length cq, .slice s sa.length cs, .slice m ma.length cm], .agg #[K.iv kind, .int .u32 key, .int .u32 val]] rfl rfl ?_
 intro fr w hS
 replace hS : K.Sat w0 [fr] w := hS
 refine K.s (K.g ?_)
 refine K.l (K.OW.gnew 30 [.slice q qa.length cq, .slice s sa.length cs, .slice m ma.length cm] hS ?_)
 clear hS; intro w r_1 g_2 hg_3 hS
 refine K.l (K.OW.gnew 47 [K.iv kind, .int .u32 key, .int .u32 val] hS ?_)
 clear hS; intro w r_4 g_5 hg_6 hS
 refine K.l (K.OW.gnew 30 [.slice none 0 0, .slice none 0 0, .slice none 0 0] hS ?_)
 clear hS; intro w r_7 g_8 hg_9 hS
 refine K.l (K.OW.gnew 49 [K.iv 0, .int .u32 0] hS ?_)
 clear hS; intro w r_10 g_11 hg_12 hS
 refine K.z (K.t (K.s (K.s (K.g (K.q [K.pa r_4] ?_)))))
 refine K.d (K.iv kind) ((hS.blk 2 rfl hg_6).cell rfl) ?_
 refine K.xe (kind : Int) (1 : Int) (by omega) ?_
 refine K.z (K.t (K.f (K.k (K.t (K.s (K.s (K.g (K.q [K.pa r_4] ?_))))))))
 refine K.d (K.iv kind) ((hS.blk 2 rfl hg_6).cell rfl) ?_
 refine K.xe (kind : Int) (2 : Int) (by omega) ?_
 refine K.q [.bool false] (K.n_ (K.n_ (K.n_ (K.n_ (K.q [.bool false] (K.z (K.t (K.f (K.k (K.t (K.s (K.s (K.g (K.q [K.pa r_4] ?_))))))))))))))
 refine K.d (K.iv kind) ((hS.blk 2 rfl hg_6).cell rfl) ?_
 refine K.xe (kind : Int) (2 : Int) (by omega) ?_
 refine K.z (K.t (K.f (K.k (K.t (K.s (K.g (K.q [.bool false] (K.z (K.t (K.s (K.s (K.g (K.q [K.iv 0] (K.z ?_))))))))))))))
 refine K.t ?_
 refine K.KW.block ?_
 refine K.KW.unr 0 ?_
 refine K.Unr.zero ?_
 refine K.s (K.s (K.g (K.q [K.pa r_4] ?_)))
 refine K.d (K.iv kind) ((hS.blk 2 rfl hg_6).cell rfl) ?_
 by_cases h_13 : (kind : Int) ≥ (3 : Int)
 ·
  refine K.y ((kind : Int) ≥ (3 : Int)) h_13 ?_
  refine K.q [.bool true, K.pa r_4] ?_
  refine K.d (K.iv kind) ((hS.blk 2 rfl hg_6).cell rfl) ?_
  refine K.x ((kind : Int) ≤ (5 : Int)) (by omega) ?_
  refine K.q [.bool false, .bool false] (K.n_ (K.n_ (K.n_ (K.n_ (K.n_ (K.q [.bool false] (K.z (K.t (K.f ?_)))))))))
  refine K.KW.exit ?_
  refine K.thn_exit ?_
  refine K.thn_exit ?_
  refine K.blk_hit ?_
  refine K.t (K.s (K.g (K.q [.int .u32 0] (K.z (K.t (K.s (K.s (K.g (K.q [K.iv 0] (K.z (K.t ?_)))))))))))
  refine K.KW.block ?_
  refine K.KW.unr 0 ?_
  refine K.Unr.zero ?_
  refine K.s (K.s (K.g (K.q [K.pa r_4] ?_)))
  refine K.d (K.iv kind) ((hS.blk 2 rfl hg_6).cell rfl) ?_
  by_cases h_14 : (kind : Int) ≥ (6 : Int)
  ·
   refine K.y ((kind : Int) ≥ (6 : Int)) h_14 ?_
   refine K.q [.bool true, K.pa r_4] ?_
   refine K.d (K.iv kind) ((hS.blk 2 rfl hg_6).cell rfl) ?_
   refine K.x ((kind : Int) ≤ (8 : Int)) (by omega) ?_
   refine K.q [.bool false, .bool false] (K.n_ (K.n_ (K.n_ (K.n_ (K.n_ (K.q [.bool false] (K.z (K.t (K.f ?_)))))))))
   refine K.KW.exit ?_
   refine K.thn_exit ?_
   refine K.thn_exit ?_
   refine K.blk_hit ?_
   refine K.t (K.s (K.s (K.g (K.q [K.pa r_4] ?_))))
   refine K.d (K.iv kind) ((hS.blk 2 rfl hg_6).cell rfl) ?_
   by_cases h_15 : (kind : Int) < (3 : Int)
   ·
    refine K.y ((kind : Int) < (3 : Int)) h_15 ?_
    refine K.q [.bool true] (K.n_ (K.n_ (K.n_ (K.q [.bool true] (K.z (K.t (K.h (K.s (K.g ?_)))))))))
    refine K.a (K.QR.ldN [.slice q qa.length cq, .slice s sa.length cs, .slice m ma.length cm] rfl rfl (by kernel_rfl) (by kernel_rfl) (K.cells (K.cl ((hS.blk 3 rfl hg_3).cell rfl) (K.cl ((hS.blk 3 rfl hg_3).cell rfl) (K.cl ((hS.blk 3 rfl hg_3).cell rfl) K.cl0))))) ?_
    refine K.a (K.QR.bd [] [K.iv 0, .int .u32 0] rfl rfl (by kernel_rfl)) ?_
    refine K.l (K.OW.gst 1 [.slice q qa.length cq, .slice s sa.length cs, .slice m ma.length cm] _ hS hg_9 ?_)
    clear hS; intro w g_16 hg_17 hS
    replace hS : K.Sat w0 [g_11, g_16, g_5, g_2, fr] w := hS
    refine K.l (K.OW.gst 0 [K.iv 0, .int .u32 0] _ hS hg_12 ?_)
    clear hS; intro w g_18 hg_19 hS
    replace hS : K.Sat w0 [g_18, g_16, g_5, g_2, fr] w := hS
    refine K.z (K.t (K.r (K.u ?_)))
    have hA : applyT ⟨qa, sa, ma⟩ kind key val = (⟨qa, sa, ma⟩, 0, 0) := apN (by omega)
    rw [hA]
    refine ⟨.inr rfl, rfl, (.tuple #[.agg #[.slice q qa.length cq, .slice s sa.length cs, .slice m ma.length cm], .agg #[K.iv 0, .int .u32 0]]), K.resAt (rs := [.cell 4 30, .cell 5 49]) [.agg #[.slice q qa.length cq, .slice s sa.length cs, .slice m ma.length cm], .agg #[K.iv 0, .int .u32 0]] rfl ⟨⟨_, rfl, K.lvN [.slice q qa.length cq, .slice s sa.length cs, .slice m ma.length cm] (by kernel_rfl) (by kernel_rfl) (K.cells (K.cl ((hS.blk 1 rfl hg_17).cell rfl) (K.cl ((hS.blk 1 rfl hg_17).cell rfl) (K.cl ((hS.blk 1 rfl hg_17).cell rfl) K.cl0))))⟩, ⟨_, rfl, K.lvN [K.iv 0, .int .u32 0] (by kernel_rfl) (by kernel_rfl) (K.cells (K.cl ((hS.blk 0 rfl hg_19).cell rfl) (K.cl ((hS.blk 0 rfl hg_19).cell rfl) K.cl0)))⟩, trivial⟩, [], ?_, hS.pick [4]⟩
    exact ⟨_, rfl, .inr (.inr (.inr (.inl ⟨rfl, rfl, rfl⟩)))⟩
   ·
    refine K.x ((kind : Int) < (3 : Int)) h_15 ?_
    refine K.q [.bool false, K.pa r_4] ?_
    refine K.d (K.iv kind) ((hS.blk 2 rfl hg_6).cell rfl) ?_
    by_cases h_20 : (kind : Int) > (8 : Int)
    ·
     refine K.y ((kind : Int) > (8 : Int)) h_20 ?_
     refine K.q [.bool true] (K.z (K.t (K.h (K.s (K.g ?_)))))
     refine K.a (K.QR.ldN [.slice q qa.length cq, .slice s sa.length cs, .slice m ma.length cm] rfl rfl (by kernel_rfl) (by kernel_rfl) (K.cells (K.cl ((hS.blk 3 rfl hg_3).cell rfl) (K.cl ((hS.blk 3 rfl hg_3).cell rfl) (K.cl ((hS.blk 3 rfl hg_3).cell rfl) K.cl0))))) ?_
     refine K.a (K.QR.bd [] [K.iv 0, .int .u32 0] rfl rfl (by kernel_rfl)) ?_
     refine K.l (K.OW.gst 1 [.slice q qa.length cq, .slice s sa.length cs, .slice m ma.length cm] _ hS hg_9 ?_)
     clear hS; intro w g_21 hg_22 hS
     replace hS : K.Sat w0 [g_11, g_21, g_5, g_2, fr] w := hS
     refine K.l (K.OW.gst 0 [K.iv 0, .int .u32 0] _ hS hg_12 ?_)
     clear hS; intro w g_23 hg_24 hS
     replace hS : K.Sat w0 [g_23, g_21, g_5, g_2, fr] w := hS
     refine K.z (K.t (K.r (K.u ?_)))
     have hA : applyT ⟨qa, sa, ma⟩ kind key val = (⟨qa, sa, ma⟩, 0, 0) := apN (by omega)
     rw [hA]
     refine ⟨.inr rfl, rfl, (.tuple #[.agg #[.slice q qa.length cq, .slice s sa.length cs, .slice m ma.length cm], .agg #[K.iv 0, .int .u32 0]]), K.resAt (rs := [.cell 4 30, .cell 5 49]) [.agg #[.slice q qa.length cq, .slice s sa.length cs, .slice m ma.length cm], .agg #[K.iv 0, .int .u32 0]] rfl ⟨⟨_, rfl, K.lvN [.slice q qa.length cq, .slice s sa.length cs, .slice m ma.length cm] (by kernel_rfl) (by kernel_rfl) (K.cells (K.cl ((hS.blk 1 rfl hg_22).cell rfl) (K.cl ((hS.blk 1 rfl hg_22).cell rfl) (K.cl ((hS.blk 1 rfl hg_22).cell rfl) K.cl0))))⟩, ⟨_, rfl, K.lvN [K.iv 0, .int .u32 0] (by kernel_rfl) (by kernel_rfl) (K.cells (K.cl ((hS.blk 0 rfl hg_24).cell rfl) (K.cl ((hS.blk 0 rfl hg_24).cell rfl) K.cl0)))⟩, trivial⟩, [], ?_, hS.pick [4]⟩
     exact ⟨_, rfl, .inr (.inr (.inr (.inl ⟨rfl, rfl, rfl⟩)))⟩
    ·
     refine K.x ((kind : Int) > (8 : Int)) h_20 ?_
     refine K.q [.bool false] (K.z (K.t (K.f (K.k (K.t (K.s (K.s ?_)))))))
     exfalso
     omega
  ·
   refine K.x ((kind : Int) ≥ (6 : Int)) h_14 ?_
   refine K.q [.bool false] (K.n_ (K.n_ (K.n_ (K.q [.bool false, .bool false] (K.n_ (K.n_ (K.n_ (K.n_ (K.n_ (K.q [.bool false] (K.z (K.t (K.f ?_)))))))))))))
   refine K.KW.exit ?_
   refine K.thn_exit ?_
   refine K.thn_exit ?_
   refine K.blk_hit ?_
   refine K.t (K.s (K.s (K.g (K.q [K.pa r_4] ?_))))
   refine K.d (K.iv kind) ((hS.blk 2 rfl hg_6).cell rfl) ?_
   by_cases h_25 : (kind : Int) < (3 : Int)
   ·
    refine K.y ((kind : Int) < (3 : Int)) h_25 ?_
    refine K.q [.bool true] (K.n_ (K.n_ (K.n_ (K.q [.bool true] (K.z (K.t (K.h (K.s (K.g ?_)))))))))
    refine K.a (K.QR.ldN [.slice q qa.length cq, .slice s sa.length cs, .slice m ma.length cm] rfl rfl (by kernel_rfl) (by kernel_rfl) (K.cells (K.cl ((hS.blk 3 rfl hg_3).cell rfl) (K.cl ((hS.blk 3 rfl hg_3).cell rfl) (K.cl ((hS.blk 3 rfl hg_3).cell rfl) K.cl0))))) ?_
    refine K.a (K.QR.bd [] [K.iv 0, .int .u32 0] rfl rfl (by kernel_rfl)) ?_
    refine K.l (K.OW.gst 1 [.slice q qa.length cq, .slice s sa.length cs, .slice m ma.length cm] _ hS hg_9 ?_)
    clear hS; intro w g_26 hg_27 hS
    replace hS : K.Sat w0 [g_11, g_26, g_5, g_2, fr] w := hS
    refine K.l (K.OW.gst 0 [K.iv 0, .int .u32 0] _ hS hg_12 ?_)
    clear hS; intro w g_28 hg_29 hS
    replace hS : K.Sat w0 [g_28, g_26, g_5, g_2, fr] w := hS
    refine K.z (K.t (K.r (K.u ?_)))
    have hA : applyT ⟨qa, sa, ma⟩ kind key val = (⟨qa, sa, ma⟩, 0, 0) := apN (by omega)
    rw [hA]
    refine ⟨.inr rfl, rfl, (.tuple #[.agg #[.slice q qa.length cq, .slice s sa.length cs, .slice m ma.length cm], .agg #[K.iv 0, .int .u32 0]]), K.resAt (rs := [.cell 4 30, .cell 5 49]) [.agg #[.slice q qa.length cq, .slice s sa.length cs, .slice m ma.length cm], .agg #[K.iv 0, .int .u32 0]] rfl ⟨⟨_, rfl, K.lvN [.slice q qa.length cq, .slice s sa.length cs, .slice m ma.length cm] (by kernel_rfl) (by kernel_rfl) (K.cells (K.cl ((hS.blk 1 rfl hg_27).cell rfl) (K.cl ((hS.blk 1 rfl hg_27).cell rfl) (K.cl ((hS.blk 1 rfl hg_27).cell rfl) K.cl0))))⟩, ⟨_, rfl, K.lvN [K.iv 0, .int .u32 0] (by kernel_rfl) (by kernel_rfl) (K.cells (K.cl ((hS.blk 0 rfl hg_29).cell rfl) (K.cl ((hS.blk 0 rfl hg_29).cell rfl) K.cl0)))⟩, trivial⟩, [], ?_, hS.pick [4]⟩
    exact ⟨_, rfl, .inr (.inr (.inr (.inl ⟨rfl, rfl, rfl⟩)))⟩
   ·
    refine K.x ((kind : Int) < (3 : Int)) h_25 ?_
    refine K.q [.bool false, K.pa r_4] ?_
    refine K.d (K.iv kind) ((hS.blk 2 rfl hg_6).cell rfl) ?_
    by_cases h_30 : (kind : Int) > (8 : Int)
    ·
     refine K.y ((kind : Int) > (8 : Int)) h_30 ?_
     refine K.q [.bool true] (K.z (K.t (K.h (K.s (K.g ?_)))))
     refine K.a (K.QR.ldN [.slice q qa.length cq, .slice s sa.length cs, .slice m ma.length cm] rfl rfl (by kernel_rfl) (by kernel_rfl) (K.cells (K.cl ((hS.blk 3 rfl hg_3).cell rfl) (K.cl ((hS.blk 3 rfl hg_3).cell rfl) (K.cl ((hS.blk 3 rfl hg_3).cell rfl) K.cl0))))) ?_
     refine K.a (K.QR.bd [] [K.iv 0, .int .u32 0] rfl rfl (by kernel_rfl)) ?_
     refine K.l (K.OW.gst 1 [.slice q qa.length cq, .slice s sa.length cs, .slice m ma.length cm] _ hS hg_9 ?_)
     clear hS; intro w g_31 hg_32 hS
     replace hS : K.Sat w0 [g_11, g_31, g_5, g_2, fr] w := hS
     refine K.l (K.OW.gst 0 [K.iv 0, .int .u32 0] _ hS hg_12 ?_)
     clear hS; intro w g_33 hg_34 hS
     replace hS : K.Sat w0 [g_33, g_31, g_5, g_2, fr] w := hS
     refine K.z (K.t (K.r (K.u ?_)))
     have hA : applyT ⟨qa, sa, ma⟩ kind key val = (⟨qa, sa, ma⟩, 0, 0) := apN (by omega)
     rw [hA]
     refine ⟨.inr rfl, rfl, (.tuple #[.agg #[.slice q qa.length cq, .slice s sa.length cs, .slice m ma.length cm], .agg #[K.iv 0, .int .u32 0]]), K.resAt (rs := [.cell 4 30, .cell 5 49]) [.agg #[.slice q qa.length cq, .slice s sa.length cs, .slice m ma.length cm], .agg #[K.iv 0, .int .u32 0]] rfl ⟨⟨_, rfl, K.lvN [.slice q qa.length cq, .slice s sa.length cs, .slice m ma.length cm] (by kernel_rfl) (by kernel_rfl) (K.cells (K.cl ((hS.blk 1 rfl hg_32).cell rfl) (K.cl ((hS.blk 1 rfl hg_32).cell rfl) (K.cl ((hS.blk 1 rfl hg_32).cell rfl) K.cl0))))⟩, ⟨_, rfl, K.lvN [K.iv 0, .int .u32 0] (by kernel_rfl) (by kernel_rfl) (K.cells (K.cl ((hS.blk 0 rfl hg_34).cell rfl) (K.cl ((hS.blk 0 rfl hg_34).cell rfl) K.cl0)))⟩, trivial⟩, [], ?_, hS.pick [4]⟩
     exact ⟨_, rfl, .inr (.inr (.inr (.inl ⟨rfl, rfl, rfl⟩)))⟩
    ·
     refine K.x ((kind : Int) > (8 : Int)) h_30 ?_
     refine K.q [.bool false] (K.z (K.t (K.f (K.k (K.t (K.s (K.s ?_)))))))
     exfalso
     omega
 ·
  refine K.x ((kind : Int) ≥ (3 : Int)) h_13 ?_
  refine K.q [.bool false] (K.n_ (K.n_ (K.n_ (K.q [.bool false, .bool false] (K.n_ (K.n_ (K.n_ (K.n_ (K.n_ (K.q [.bool false] (K.z (K.t (K.f ?_)))))))))))))
  refine K.KW.exit ?_
  refine K.thn_exit ?_
  refine K.thn_exit ?_
  refine K.blk_hit ?_
  refine K.t (K.s (K.g (K.q [.int .u32 0] (K.z (K.t (K.s (K.s (K.g (K.q [K.iv 0] (K.z (K.t ?_)))))))))))
  refine K.KW.block ?_
  refine K.KW.unr 0 ?_
  refine K.Unr.zero ?_
  refine K.s (K.s (K.g (K.q [K.pa r_4] ?_)))
  refine K.d (K.iv kind) ((hS.blk 2 rfl hg_6).cell rfl) ?_
  by_cases h_35 : (kind : Int) ≥ (6 : Int)
  ·
   refine K.y ((kind : Int) ≥ (6 : Int)) h_35 ?_
   refine K.q [.bool true, K.pa r_4] ?_
   refine K.d (K.iv kind) ((hS.blk 2 rfl hg_6).cell rfl) ?_
   refine K.x ((kind : Int) ≤ (8 : Int)) (by omega) ?_
   refine K.q [.bool false, .bool false] (K.n_ (K.n_ (K.n_ (K.n_ (K.n_ (K.q [.bool false] (K.z (K.t (K.f ?_)))))))))
   refine K.KW.exit ?_
   refine K.thn_exit ?_
   refine K.thn_exit ?_
   refine K.blk_hit ?_
   refine K.t (K.s (K.s (K.g (K.q [K.pa r_4] ?_))))
   refine K.d (K.iv kind) ((hS.blk 2 rfl hg_6).cell rfl) ?_
   by_cases h_36 : (kind : Int) < (3 : Int)
   ·
    refine K.y ((kind : Int) < (3 : Int)) h_36 ?_
    refine K.q [.bool true] (K.n_ (K.n_ (K.n_ (K.q [.bool true] (K.z (K.t (K.h (K.s (K.g ?_)))))))))
    refine K.a (K.QR.ldN [.slice q qa.length cq, .slice s sa.length cs, .slice m ma.length cm] rfl rfl (by kernel_rfl) (by kernel_rfl) (K.cells (K.cl ((hS.blk 3 rfl hg_3).cell rfl) (K.cl ((hS.blk 3 rfl hg_3).cell rfl) (K.cl ((hS.blk 3 rfl hg_3).cell rfl) K.cl0))))) ?_
    refine K.a (K.QR.bd [] [K.iv 0, .int .u32 0] rfl rfl (by kernel_rfl)) ?_
    refine K.l (K.OW.gst 1 [.slice q qa.length cq, .slice s sa.length cs, .slice m ma.length cm] _ hS hg_9 ?_)
    clear hS; intro w g_37 hg_38 hS
    replace hS : K.Sat w0 [g_11, g_37, g_5, g_2, fr] w := hS
    refine K.l (K.OW.gst 0 [K.iv 0, .int .u32 0] _ hS hg_12 ?_)
    clear hS; intro w g_39 hg_40 hS
    replace hS : K.Sat w0 [g_39, g_37, g_5, g_2, fr] w := hS
    refine K.z (K.t (K.r (K.u ?_)))
    have hA : applyT ⟨qa, sa, ma⟩ kind key val = (⟨qa, sa, ma⟩, 0, 0) := apN (by omega)
    rw [hA]
    refine ⟨.inr rfl, rfl, (.tuple #[.agg #[.slice q qa.length cq, .slice s sa.length cs, .slice m ma.length cm], .agg #[K.iv 0, .int .u32 0]]), K.resAt (rs := [.cell 4 30, .cell 5 49]) [.agg #[.slice q qa.length cq, .slice s sa.length cs, .slice m ma.length cm], .agg #[K.iv 0, .int .u32 0]] rfl ⟨⟨_, rfl, K.lvN [.slice q qa.length cq, .slice s sa.length cs, .slice m ma.length cm] (by kernel_rfl) (by kernel_rfl) (K.cells (K.cl ((hS.blk 1 rfl hg_38).cell rfl) (K.cl ((hS.blk 1 rfl hg_38).cell rfl) (K.cl ((hS.blk 1 rfl hg_38).cell rfl) K.cl0))))⟩, ⟨_, rfl, K.lvN [K.iv 0, .int .u32 0] (by kernel_rfl) (by kernel_rfl) (K.cells (K.cl ((hS.blk 0 rfl hg_40).cell rfl) (K.cl ((hS.blk 0 rfl hg_40).cell rfl) K.cl0)))⟩, trivial⟩, [], ?_, hS.pick [4]⟩
    exact ⟨_, rfl, .inr (.inr (.inr (.inl ⟨rfl, rfl, rfl⟩)))⟩
   ·
    refine K.x ((kind : Int) < (3 : Int)) h_36 ?_
    refine K.q [.bool false, K.pa r_4] ?_
    refine K.d (K.iv kind) ((hS.blk 2 rfl hg_6).cell rfl) ?_
    by_cases h_41 : (kind : Int) > (8 : Int)
    ·
     refine K.y ((kind : Int) > (8 : Int)) h_41 ?_
     refine K.q [.bool true] (K.z (K.t (K.h (K.s (K.g ?_)))))
     refine K.a (K.QR.ldN [.slice q qa.length cq, .slice s sa.length cs, .slice m ma.length cm] rfl rfl (by kernel_rfl) (by kernel_rfl) (K.cells (K.cl ((hS.blk 3 rfl hg_3).cell rfl) (K.cl ((hS.blk 3 rfl hg_3).cell rfl) (K.cl ((hS.blk 3 rfl hg_3).cell rfl) K.cl0))))) ?_
     refine K.a (K.QR.bd [] [K.iv 0, .int .u32 0] rfl rfl (by kernel_rfl)) ?_
     refine K.l (K.OW.gst 1 [.slice q qa.length cq, .slice s sa.length cs, .slice m ma.length cm] _ hS hg_9 ?_)
     clear hS; intro w g_42 hg_43 hS
     replace hS : K.Sat w0 [g_11, g_42, g_5, g_2, fr] w := hS
     refine K.l (K.OW.gst 0 [K.iv 0, .int .u32 0] _ hS hg_12 ?_)
     clear hS; intro w g_44 hg_45 hS
     replace hS : K.Sat w0 [g_44, g_42, g_5, g_2, fr] w := hS
     refine K.z (K.t (K.r (K.u ?_)))
     have hA : applyT ⟨qa, sa, ma⟩ kind key val = (⟨qa, sa, ma⟩, 0, 0) := apN (by omega)
     rw [hA]
     refine ⟨.inr rfl, rfl, (.tuple #[.agg #[.slice q qa.length cq, .slice s sa.length cs, .slice m ma.length cm], .agg #[K.iv 0, .int .u32 0]]), K.resAt (rs := [.cell 4 30, .cell 5 49]) [.agg #[.slice q qa.length cq, .slice s sa.length cs, .slice m ma.length cm], .agg #[K.iv 0, .int .u32 0]] rfl ⟨⟨_, rfl, K.lvN [.slice q qa.length cq, .slice s sa.length cs, .slice m ma.length cm] (by kernel_rfl) (by kernel_rfl) (K.cells (K.cl ((hS.blk 1 rfl hg_43).cell rfl) (K.cl ((hS.blk 1 rfl hg_43).cell rfl) (K.cl ((hS.blk 1 rfl hg_43).cell rfl) K.cl0))))⟩, ⟨_, rfl, K.lvN [K.iv 0, .int .u32 0] (by kernel_rfl) (by kernel_rfl) (K.cells (K.cl ((hS.blk 0 rfl hg_45).cell rfl) (K.cl ((hS.blk 0 rfl hg_45).cell rfl) K.cl0)))⟩, trivial⟩, [], ?_, hS.pick [4]⟩
     exact ⟨_, rfl, .inr (.inr (.inr (.inl ⟨rfl, rfl, rfl⟩)))⟩
    ·
     refine K.x ((kind : Int) > (8 : Int)) h_41 ?_
     refine K.q [.bool false] (K.z (K.t (K.f (K.k (K.t (K.s (K.s ?_)))))))
     exfalso
     omega
  ·
   refine K.x ((kind : Int) ≥ (6 : Int)) h_35 ?_
   refine K.q [.bool false] (K.n_ (K.n_ (K.n_ (K.q [.bool false, .bool false] (K.n_ (K.n_ (K.n_ (K.n_ (K.n_ (K.q [.bool false] (K.z (K.t (K.f ?_)))))))))))))
   refine K.KW.exit ?_
   refine K.thn_exit ?_
   refine K.thn_exit ?_
   refine K.blk_hit ?_
   refine K.t (K.s (K.s (K.g (K.q [K.pa r_4] ?_))))
   refine K.d (K.iv kind) ((hS.blk 2 rfl hg_6).cell rfl) ?_
   by_cases h_46 : (kind : Int) < (3 : Int)
   ·
    refine K.y ((kind : Int) < (3 : Int)) h_46 ?_
    refine K.q [.bool true] (K.n_ (K.n_ (K.n_ (K.q [.bool true] (K.z (K.t (K.h (K.s (K.g ?_)))))))))
    refine K.a (K.QR.ldN [.slice q qa.length cq, .slice s sa.length cs, .slice m ma.length cm] rfl rfl (by kernel_rfl) (by kernel_rfl) (K.cells (K.cl ((hS.blk 3 rfl hg_3).cell rfl) (K.cl ((hS.blk 3 rfl hg_3).cell rfl) (K.cl ((hS.blk 3 rfl hg_3).cell rfl) K.cl0))))) ?_
    refine K.a (K.QR.bd [] [K.iv 0, .int .u32 0] rfl rfl (by kernel_rfl)) ?_
    refine K.l (K.OW.gst 1 [.slice q qa.length cq, .slice s sa.length cs, .slice m ma.length cm] _ hS hg_9 ?_)
    clear hS; intro w g_47 hg_48 hS
    replace hS : K.Sat w0 [g_11, g_47, g_5, g_2, fr] w := hS
    refine K.l (K.OW.gst 0 [K.iv 0, .int .u32 0] _ hS hg_12 ?_)
    clear hS; intro w g_49 hg_50 hS
    replace hS : K.Sat w0 [g_49, g_47, g_5, g_2, fr] w := hS
    refine K.z (K.t (K.r (K.u ?_)))
    have hA : applyT ⟨qa, sa, ma⟩ kind key val = (⟨qa, sa, ma⟩, 0, 0) := apN (by omega)
    rw [hA]
    refine ⟨.inr rfl, rfl, (.tuple #[.agg #[.slice q qa.length cq, .slice s sa.length cs, .slice m ma.length cm], .agg #[K.iv 0, .int .u32 0]]), K.resAt (rs := [.cell 4 30, .cell 5 49]) [.agg #[.slice q qa.length cq, .slice s sa.length cs, .slice m ma.length cm], .agg #[K.iv 0, .int .u32 0]] rfl ⟨⟨_, rfl, K.lvN [.slice q qa.length cq, .slice s sa.length cs, .slice m ma.length cm] (by kernel_rfl) (by kernel_rfl) (K.cells (K.cl ((hS.blk 1 rfl hg_48).cell rfl) (K.cl ((hS.blk 1 rfl hg_48).cell rfl) (K.cl ((hS.blk 1 rfl hg_48).cell rfl) K.cl0))))⟩, ⟨_, rfl, K.lvN [K.iv 0, .int .u32 0] (by kernel_rfl) (by kernel_rfl) (K.cells (K.cl ((hS.blk 0 rfl hg_50).cell rfl) (K.cl ((hS.blk 0 rfl hg_50).cell rfl) K.cl0)))⟩, trivial⟩, [], ?_, hS.pick [4]⟩
    exact ⟨_, rfl, .inr (.inr (.inr (.inl ⟨rfl, rfl, rfl⟩)))⟩
   ·
    refine K.x ((kind : Int) < (3 : Int)) h_46 ?_
    refine K.q [.bool false, K.pa r_4] ?_
    refine K.d (K.iv kind) ((hS.blk 2 rfl hg_6).cell rfl) ?_
    by_cases h_51 : (kind : Int) > (8 : Int)
    ·
     refine K.y ((kind : Int) > (8 : Int)) h_51 ?_
     refine K.q [.bool true] (K.z (K.t (K.h (K.s (K.g ?_)))))
     refine K.a (K.QR.ldN [.slice q qa.length cq, .slice s sa.length cs, .slice m ma.length cm] rfl rfl (by kernel_rfl) (by kernel_rfl) (K.cells (K.cl ((hS.blk 3 rfl hg_3).cell rfl) (K.cl ((hS.blk 3 rfl hg_3).cell rfl) (K.cl ((hS.blk 3 rfl hg_3).cell rfl) K.cl0))))) ?_
     refine K.a (K.QR.bd [] [K.iv 0, .int .u32 0] rfl rfl (by kernel_rfl)) ?_
     refine K.l (K.OW.gst 1 [.slice q qa.length cq, .slice s sa.length cs, .slice m ma.length cm] _ hS hg_9 ?_)
     clear hS; intro w g_52 hg_53 hS
     replace hS : K.Sat w0 [g_11, g_52, g_5, g_2, fr] w := hS
     refine K.l (K.OW.gst 0 [K.iv 0, .int .u32 0] _ hS hg_12 ?_)
     clear hS; intro w g_54 hg_55 hS
     replace hS : K.Sat w0 [g_54, g_52, g_5, g_2, fr] w := hS
     refine K.z (K.t (K.r (K.u ?_)))
     have hA : applyT ⟨qa, sa, ma⟩ kind key val = (⟨qa, sa, ma⟩, 0, 0) := apN (by omega)
     rw [hA]
     refine ⟨.inr rfl, rfl, (.tuple #[.agg #[.slice q qa.length cq, .slice s sa.length cs, .slice m ma.length cm], .agg #[K.iv 0, .int .u32 0]]), K.resAt (rs := [.cell 4 30, .cell 5 49]) [.agg #[.slice q qa.length cq, .slice s sa.length cs, .slice m ma.length cm], .agg #[K.iv 0, .int .u32 0]] rfl ⟨⟨_, rfl, K.lvN [.slice q qa.length cq, .slice s sa.length cs, .slice m ma.length cm] (by kernel_rfl) (by kernel_rfl) (K.cells (K.cl ((hS.blk 1 rfl hg_53).cell rfl) (K.cl ((hS.blk 1 rfl hg_53).cell rfl) (K.cl ((hS.blk 1 rfl hg_53).cell rfl) K.cl0))))⟩, ⟨_, rfl, K.lvN [K.iv 0, .int .u32 0] (by kernel_rfl) (by kernel_rfl) (K.cells (K.cl ((hS.blk 0 rfl hg_55).cell rfl) (K.cl ((hS.blk 0 rfl hg_55).cell rfl) K.cl0)))⟩, trivial⟩, [], ?_, hS.pick [4]⟩
     exact ⟨_, rfl, .inr (.inr (.inr (.inl ⟨rfl, rfl, rfl⟩)))⟩
    ·
     refine K.x ((kind : Int) > (8 : Int)) h_51 ?_
     refine K.q [.bool false] (K.z (K.t (K.f (K.k (K.t (K.s (K.s ?_)))))))
     exfalso
     omega
end Go.Proofs.Ytnehocjmgnhhhaa
