/- Operations one behind the other: model.Run. -/
import Derived.Test.YtgeihjiichdpbaaFma
namespace Go.Proofs.Ytgeihjiichdpbaa
open Go.RowKit
set_option linter.unusedVariables false
attribute [local irreducible] K.KW K.RW K.DW K.OW K.QR K.KC

structure OpM where
  kind : Int
  key : Int
  val : Int
def cOp (o : OpM) : List Value := [.int .i64 o.kind, .int .u32 o.key, .int .u32 o.val]
def op0 : OpM := ⟨0, 0, 0⟩
theorem rising_cut {s : List Int} {k : Int} (hr : rising s) : rising (cutT idI s k) := rising_of (cutT_rises (rises_idI hr))
theorem setT_ok {s : List Int} {kind k : Int} (hr : rising s) : (setT s kind k).1.length ≤ s.length + 1 ∧ rising (setT s kind k).1 := by
  have hi := rises_idI hr
  rw [setT_eq hr]
  cases h : anyT idI k s with
  | true =>
    simp only [if_true]
    split
    · rw [keysR_cut]
      exact ⟨Nat.le_succ_of_le (List.length_filter_le _ _) , rising_cut hr⟩
    · exact ⟨Nat.le_succ _, hr⟩
  | false =>
    simp only [Bool.false_eq_true, if_false]
    rw [anyT_get] at h
    have hn : getT idI s k = none := by simpa using h
    split
    · rw [keysR_put hn]
      refine ⟨?_, rising_of (putT_rises (x := k) hi rfl hn)⟩
      rw [← ins_put (f := idI) (k := k) s k]
      exact Nat.le_of_eq (insT_len (by rw [map_idI]; exact posT_le _ _))
    · exact ⟨Nat.le_succ _, hr⟩
theorem pairsT_ok {m : List PairM} {kind k v : Int} (hr : rising (keysP m)) : (pairsT m kind k v).1.length ≤ m.length + 1 ∧ rising (keysP (pairsT m kind k v).1) := by
  have hi := rises_key hr
  rw [pairsT_eq hr]
  cases h : anyT PairM.key k m with
  | true =>
    simp only [if_true]
    split
    · rw [keysR_cut]
      exact ⟨Nat.le_succ_of_le (List.length_filter_le _ _) , Rises.rising.1 (cutT_rises hi)⟩
    · exact ⟨Nat.le_succ _, hr⟩
  | false =>
    simp only [Bool.false_eq_true, if_false]
    rw [anyT_get] at h
    have hn : getT PairM.key m k = none := by simpa using h
    split
    · rw [keysR_put hn]
      refine ⟨?_, Rises.rising.1 (putT_rises (x := ⟨k, v⟩) hi rfl hn)⟩
      rw [← ins_put (f := PairM.key) (k := k) m ⟨k, v⟩]
      have := posT_le (m.map PairM.key) k
      exact Nat.le_of_eq (insT_len (by simpa using this))
    · exact ⟨Nat.le_succ _, hr⟩
theorem queueT_len (q : List Int) (kind v : Int) : (queueT q kind v).1.length ≤ q.length + 1 := by
  unfold queueT
  split
  · exact Nat.le_of_eq (insT_len (Nat.le_refl _))
  · split
    · exact Nat.le_succ _
    · rename_i h; rw [delT_len (by omega)]; omega
theorem applyT_ok {S : StM} {kind key val : Int} (h1 : rising S.s) (h2 : rising (keysP S.m)) :
    (applyT S kind key val).1.q.length ≤ S.q.length + 1 ∧ (applyT S kind key val).1.s.length ≤ S.s.length + 1 ∧ (applyT S kind key val).1.m.length ≤ S.m.length + 1 ∧ rising (applyT S kind key val).1.s ∧ rising (keysP (applyT S kind key val).1.m) := by
  unfold applyT
  (repeat' split)
  · exact ⟨queueT_len _ _ _, Nat.le_succ _, Nat.le_succ _, h1, h2⟩
  · exact ⟨Nat.le_succ _, (setT_ok h1).1, Nat.le_succ _, (setT_ok h1).2, h2⟩
  · exact ⟨Nat.le_succ _, Nat.le_succ _, (pairsT_ok h2).1, h1, (pairsT_ok h2).2⟩
  · exact ⟨Nat.le_succ _, Nat.le_succ _, Nat.le_succ _, h1, h2⟩
theorem applyT_okE {q s : List Int} {m : List PairM} {kind key val : Int} (h1 : rising s) (h2 : rising (keysP m)) :
    (applyT ⟨q, s, m⟩ kind key val).1.q.length ≤ q.length + 1 ∧ (applyT ⟨q, s, m⟩ kind key val).1.s.length ≤ s.length + 1 ∧ (applyT ⟨q, s, m⟩ kind key val).1.m.length ≤ m.length + 1 ∧ rising (applyT ⟨q, s, m⟩ kind key val).1.s ∧ rising (keysP (applyT ⟨q, s, m⟩ kind key val).1.m) := applyT_ok (S := ⟨q, s, m⟩) h1 h2
def apO (S : StM) (o : OpM) : StM × Int × Int := applyT S o.kind o.key o.val
/-- operations, one behind the other -/
def runT (S : StM) : List OpM → StM × List (Int × Int)
  | [] => (S, [])
  | o :: l => ((runT (apO S o).1 l).1, (apO S o).2 :: (runT (apO S o).1 l).2)
theorem runT_snoc (o : OpM) : ∀ (l : List OpM) (S : StM), runT S (l ++ [o]) = ((apO (runT S l).1 o).1, (runT S l).2 ++ [(apO (runT S l).1 o).2])
  | [], S => rfl
  | a :: l, S => by
    show ((runT (apO S a).1 (l ++ [o])).1, (apO S a).2 :: (runT (apO S a).1 (l ++ [o])).2) = _
    rw [runT_snoc o l]; rfl
theorem runT_next {S S' : StM} {o : List (Int × Int)} {ls : List OpM} {j : Nat} (h : runT S (ls.take j) = (S', o)) (hj : j < ls.length) : runT S (ls.take (j + 1)) = ((apO S' (ls.getD j op0)).1, o ++ [(apO S' (ls.getD j op0)).2]) := by
  rw [tk_snoc (d := op0) hj, runT_snoc, h]
theorem runT_len : ∀ (l : List OpM) (S : StM), (runT S l).2.length = l.length
  | [], _ => rfl
  | o :: l, S => congrArg (· + 1) (runT_len l _)
theorem runT_get : ∀ {ls : List OpM} {S : StM} {j : Nat}, j < ls.length → (runT S ls).2.getD j (0, 0) = (apO (runT S (ls.take j)).1 (ls.getD j op0)).2
  | [], _, j, h => by simp at h
  | o :: l, S, 0, _ => rfl
  | o :: l, S, j + 1, h => runT_get (ls := l) (S := (apO S o).1) (j := j) (by simpa using h)
/-- the answer of Run -/
def RunR (w0 : World) (T : StM × List (Int × Int)) (gl : K.Cs) (v : Value) (post : List K.Cs) : Prop :=
  ∃ (a1 : Option Addr) (c1 : Nat) (a2 : Option Addr) (c2 : Nat) (a3 : Option Addr) (c3 : Nat) (r : Option Addr) (c : Nat) (g1 g2 g3 gr : K.Cs),
    v = .tuple #[.agg #[.slice a1 T.1.q.length c1, .slice a2 T.1.s.length c2, .slice a3 T.1.m.length c3], .slice r T.2.length c] ∧ post = [g1, g2, g3, gl, gr] ∧ RdU w0 g1 a1 T.1.q ∧ RdU w0 g2 a2 T.1.s ∧ RdP w0 g3 a3 T.1.m ∧ K.OwnG gr 52 2 r T.2.length c (T.2.flatMap cRes)

set_option maxHeartbeats 1000000 in
set_option maxRecDepth 100000 in
theorem runG_ok (w0 : World) (q s m : Option Addr) (cq cs cm : Nat) (qa sa : List Int) (ma : List PairM) (b : Option Addr) (cb : Nat) (ls : List OpM) (h1 : qa.length ≤ 100) (h2 : sa.length ≤ 100) (h3 : ma.length ≤ 100) (h4 : ls.length ≤ 100) (hr1 : rising sa) (hr2 : rising (keysP ma)) (hc : qa.length ≤ cq) (g1 : K.Cs) (x1 : ∀ w, K.Sat w0 [g1] w → K.RowE w q qa.length 1 (fun i => cU32 (qa.getD i 0))) (g2 : K.Cs) (x2 : ∀ w, K.Sat w0 [g2] w → K.RowE w s sa.length 1 (fun i => cU32 (sa.getD i 0))) (g3 : K.Cs) (x3 : ∀ w, K.Sat w0 [g3] w → K.RowE w m ma.length 2 (fun i => cPair (ma.getD i p0))) (g4 : K.Cs) (x4 : ∀ w, K.Sat w0 [g4] w → K.RowE w b ls.length 3 (fun i => cOp (ls.getD i op0))) :
    K.GC Try.prog w0 27 #[.agg #[.slice q qa.length cq, .slice s sa.length cs, .slice m ma.length cm], .slice b ls.length cb] [g1, g2, g3, g4] (RunR w0 (runT ⟨qa, sa, ma⟩ ls) g4) := by
  refine K.GC.mk (n := 31) Try.func27 rfl rfl [.agg #[.slice q qa.length cq, .slice s sa.length cs, .slice m ma.length cm], .slice b ls.length cb] rfl rfl ?_
  intro fr w hS
  replace hS : K.Sat w0 [g1, g2, g3, g4, fr] w := hS
  refine K.KW.seq ?_
  -- 0 :124
  refine K.KW.region ?_
  refine K.RW.l rfl (K.OW.gnew 42 [.slice q qa.length cq, .slice s sa.length cs, .slice m ma.length cm] hS ?_)
  clear hS; intro w r_1 g_2 hg_3 hS
  refine K.RW.l rfl (K.OW.gnew 42 [.slice none 0 0, .slice none 0 0, .slice none 0 0] hS ?_)
  clear hS; intro w r_4 g_5 hg_6 hS
  refine K.RW.qs [.slice none 0 0] (by kernel_rfl) ?_
  refine K.RW.nil ?_
  refine K.thn_normal ?_
  refine K.KW.seq ?_
  -- 1 :125
  refine K.KW.region ?_
  refine K.RW.qs [.slice none 0 0] (by kernel_rfl) ?_
  refine K.RW.nil ?_
  refine K.thn_normal ?_
  refine K.KW.seq ?_
  refine K.KW.seq ?_
  -- 2 :126
  refine K.KW.region ?_
  refine K.RW.qs [.slice b ls.length cb] (by kernel_rfl) ?_
  refine K.RW.q rfl rfl (K.QR.len (P := Try.prog) rfl rfl Try.underlying50) ?_
  refine K.RW.qs [.int .i64 0] (by kernel_rfl) ?_
  refine K.RW.nil ?_
  refine K.thn_normal ?_
  refine K.KW.block ?_
  obtain ⟨z_7, hz_8⟩ : ∃ z : K.Cs, z = [] := ⟨_, rfl⟩
  replace hS : K.Sat w0 [z_7, g_5, g_2, g1, g2, g3, g4, fr] w := hS.of (by simp [hz_8])
  have o_9 : K.OwnG z_7 52 2 none 0 0 [] := by rw [hz_8]; exact K.OwnG.nil _ _
  refine K.KW.loop (fun m_ F_ w_ => ∃ (j : Nat) (S : StM) (o : List (Int × Int)) (p1 : Option Addr) (c1 : Nat) (zq : Option Addr) (zd : Nat) (zs : Option Addr) (ze : Nat) (zm : Option Addr) (zf : Nat) (zb : K.Cs) (zg : K.Cs) (zh : K.Cs) (zi : K.Cs) (o1 : K.Cs), m_ = ls.length - j ∧ K.Sl F_ [(0, .agg #[.slice q qa.length cq, .slice s sa.length cs, .slice m ma.length cm]), (1, .slice b ls.length cb), (2, .pointer (some ⟨r_1, 0, none⟩)), (4, .pointer (some ⟨r_4, 0, none⟩)), (5, .slice none 0 0), (6, .slice p1 o.length c1), (11, .slice b ls.length cb), (12, .int .i64 ((ls.length : Nat) : Int)), (13, .int .i64 ((j : Nat) : Int)), (31, undef)] ∧ j ≤ ls.length ∧ runT ⟨qa, sa, ma⟩ (ls.take j) = (S, o) ∧ S.q.length ≤ 100 + j ∧ S.s.length ≤ 100 + j ∧ S.m.length ≤ 100 + j ∧ rising S.s ∧ rising (keysP S.m) ∧ S.q.length ≤ zd ∧ o.length = j ∧ zb = [K.pt r_1 42 [.slice zq S.q.length zd, .slice zs S.s.length ze, .slice zm S.m.length zf]] ∧ (∀ w, K.Sat w0 [zg] w → K.RowE w zq S.q.length 1 (fun i => cU32 (S.q.getD i 0))) ∧ (∀ w, K.Sat w0 [zh] w → K.RowE w zs S.s.length 1 (fun i => cU32 (S.s.getD i 0))) ∧ (∀ w, K.Sat w0 [zi] w → K.RowE w zm S.m.length 2 (fun i => cPair (S.m.getD i p0))) ∧ K.OwnG o1 52 2 p1 o.length c1 ((o).flatMap cRes) ∧ K.Sat w0 [o1, g_5, zb, zg, zh, zi, g4, fr] w_) ((fun (j : Nat) (S : StM) (o : List (Int × Int)) (p1 : Option Addr) (c1 : Nat) (zq : Option Addr) (zd : Nat) (zs : Option Addr) (ze : Nat) (zm : Option Addr) (zf : Nat) => ls.length - j) 0 ⟨qa, sa, ma⟩ [] none 0 q cq s cs m cm) ?_ ?_
  · -- begins
    exact ⟨0, ⟨qa, sa, ma⟩, [], none, 0, q, cq, s, cs, m, cm, g_2, g1, g2, g3, z_7, rfl, ⟨by rfl, by rfl, by rfl, by rfl, by rfl, by rfl, by rfl, by rfl, by rfl, by rfl, trivial⟩, (by omega), (rfl), (by exact h1), (by exact h2), (by exact h3), (hr1), (hr2), (hc), (rfl), hg_3, x1, x2, x3, o_9, hS.pick [0, 1, 2, 3, 4, 5, 6, 7]⟩
  · -- a round
    clear hS
    intro m_10 F_11 w hI
    obtain ⟨j, S, o, p1, c1, zq, zd, zs, ze, zm, zf, zb, zg, zh, zi, o1, rfl, sl_12, p_13, hrun, p_14, p_15, p_16, p_17, p_18, p_19, p_20, x_21, x_22, x_23, x_24, x_25, hS⟩ := hI
    rw [← K.Sl.puts sl_12]; clear sl_12
    refine K.KW.seq ?_
    -- 3 :126
    refine K.KW.region ?_
    by_cases h_26 : (((j : Nat) : Int) : Int) < (((ls.length : Nat) : Int) : Int)
    ·  -- yes
      refine K.RW.q rfl rfl (K.QR.nice (v := .bool (decide ((((j : Nat) : Int) : Int) < (((ls.length : Nat) : Int) : Int)))) (by kernel_rfl) (congrArg Value.bool (decide_eq_true h_26))) ?_
      refine K.RW.nil ?_
      refine K.thn_normal ?_
      refine K.KW.seq ?_
      refine K.KW.ifT rfl ?_
      refine K.KW.skip ?_
      refine K.thn_normal ?_
      refine K.KW.seq ?_
      refine K.KW.block ?_
      refine K.KW.seq ?_
      -- 4 :126
      obtain ⟨b_27, of_28, rfl, _⟩ := (x4 _ (hS.pick [6])).at_ (by omega)
      refine K.KW.region ?_
      refine K.RW.q rfl rfl (K.QR.ix (of_28 + j * 3) 3 rfl rfl rfl Try.underlying50 (by kernel_rfl) (by omega) (by first | (simp; done) | omega | (simp; omega))) ?_
      refine K.RW.q rfl rfl (K.QR.ldN [.int .i64 ((ls.getD j op0).kind), .int .u32 ((ls.getD j op0).key), .int .u32 ((ls.getD j op0).val)] rfl rfl (by kernel_rfl) (by kernel_rfl) (K.cells (K.cl ((x4 _ (hS.pick [6])).ld j (by omega) 0 _ rfl) (K.cl ((x4 _ (hS.pick [6])).ld j (by omega) 1 _ rfl) (K.cl ((x4 _ (hS.pick [6])).ld j (by omega) 2 _ rfl) K.cl0))))) ?_
      refine K.RW.l rfl (K.OW.gnew 45 [.int .i64 0, .int .u32 0, .int .u32 0] hS ?_)
      clear hS; intro w r_29 g_30 hg_31 hS
      refine K.RW.l rfl (K.OW.gst 0 [.int .i64 ((ls.getD j op0).kind), .int .u32 ((ls.getD j op0).key), .int .u32 ((ls.getD j op0).val)] [.int .i64 ((ls.getD j op0).kind), .int .u32 ((ls.getD j op0).key), .int .u32 ((ls.getD j op0).val)] hS hg_31 ?_)
      clear hS; intro w g_32 hg_33 hS
      replace hS : K.Sat w0 [g_32, o1, g_5, zb, zg, zh, zi, g4, fr] w := hS
      refine K.RW.nil ?_
      refine K.thn_normal ?_
      refine K.KW.seq ?_
      -- 5 :127
      refine K.KW.region ?_
      refine K.RW.q rfl rfl (K.QR.ldN [.slice zq S.q.length zd, .slice zs S.s.length ze, .slice zm S.m.length zf] rfl rfl (by kernel_rfl) (by kernel_rfl) (K.cells (K.cl ((hS.blk 3 rfl x_21).cell rfl) (K.cl ((hS.blk 3 rfl x_21).cell rfl) (K.cl ((hS.blk 3 rfl x_21).cell rfl) K.cl0))))) ?_
      refine K.RW.q rfl rfl (K.QR.ldN [.int .i64 ((ls.getD j op0).kind), .int .u32 ((ls.getD j op0).key), .int .u32 ((ls.getD j op0).val)] rfl rfl (by kernel_rfl) (by kernel_rfl) (K.cells (K.cl ((hS.blk 0 rfl hg_33).cell rfl) (K.cl ((hS.blk 0 rfl hg_33).cell rfl) (K.cl ((hS.blk 0 rfl hg_33).cell rfl) K.cl0))))) ?_
      refine K.RW.l rfl (K.OW.gcall hS [4, 5, 6] [0, 1, 2, 3, 7, 8] [.agg #[.slice zq S.q.length zd, .slice zs S.s.length ze, .slice zm S.m.length zf], .agg #[.int .i64 ((ls.getD j op0).kind), .int .u32 ((ls.getD j op0).key), .int .u32 ((ls.getD j op0).val)]] (applyG_ok _ _ _ _ _ _ _ S.q S.s S.m ((ls.getD j op0).kind) ((ls.getD j op0).key) ((ls.getD j op0).val) (by omega) (by omega) (by omega) (by assumption) (by assumption) (by omega) _ _ _ x_22 x_23 x_24) ?_)
      clear hS; rintro _ _ w ⟨a1_34, c1_35, a2_36, c2_37, a3_38, c3_39, g1_40, g2_41, g3_42, rfl, rfl, x1_43, x2_44, x3_45, hc_46⟩ hS
      replace hS : K.Sat w0 [g1_40, g2_41, g3_42, g_32, o1, g_5, zb, g4, fr] w := hS
      obtain ⟨h_47, h_48, h_49, h_50, h_51⟩ := applyT_okE (q := S.q) (s := S.s) (m := S.m) (kind := (ls.getD j op0).kind) (key := (ls.getD j op0).key) (val := (ls.getD j op0).val) (by assumption) (by assumption)
      refine K.RW.qs [.tuple #[.agg #[.slice a1_34 ((applyT ⟨S.q, S.s, S.m⟩ ((ls.getD j op0).kind) ((ls.getD j op0).key) ((ls.getD j op0).val)).1.q.length) c1_35, .slice a2_36 ((applyT ⟨S.q, S.s, S.m⟩ ((ls.getD j op0).kind) ((ls.getD j op0).key) ((ls.getD j op0).val)).1.s.length) c2_37, .slice a3_38 ((applyT ⟨S.q, S.s, S.m⟩ ((ls.getD j op0).kind) ((ls.getD j op0).key) ((ls.getD j op0).val)).1.m.length) c3_39], .agg #[.int .i64 ((applyT ⟨S.q, S.s, S.m⟩ ((ls.getD j op0).kind) ((ls.getD j op0).key) ((ls.getD j op0).val)).2.1), .int .u32 ((applyT ⟨S.q, S.s, S.m⟩ ((ls.getD j op0).kind) ((ls.getD j op0).key) ((ls.getD j op0).val)).2.2)]], .agg #[.slice a1_34 ((applyT ⟨S.q, S.s, S.m⟩ ((ls.getD j op0).kind) ((ls.getD j op0).key) ((ls.getD j op0).val)).1.q.length) c1_35, .slice a2_36 ((applyT ⟨S.q, S.s, S.m⟩ ((ls.getD j op0).kind) ((ls.getD j op0).key) ((ls.getD j op0).val)).1.s.length) c2_37, .slice a3_38 ((applyT ⟨S.q, S.s, S.m⟩ ((ls.getD j op0).kind) ((ls.getD j op0).key) ((ls.getD j op0).val)).1.m.length) c3_39], .agg #[.int .i64 ((applyT ⟨S.q, S.s, S.m⟩ ((ls.getD j op0).kind) ((ls.getD j op0).key) ((ls.getD j op0).val)).2.1), .int .u32 ((applyT ⟨S.q, S.s, S.m⟩ ((ls.getD j op0).kind) ((ls.getD j op0).key) ((ls.getD j op0).val)).2.2)]] (by kernel_rfl) ?_
      refine K.RW.l rfl (K.OW.gnew 42 [.slice none 0 0, .slice none 0 0, .slice none 0 0] hS ?_)
      clear hS; intro w r_52 g_53 hg_54 hS
      refine K.RW.l rfl (K.OW.gnew 52 [.int .i64 0, .int .u32 0] hS ?_)
      clear hS; intro w r_55 g_56 hg_57 hS
      refine K.RW.l rfl (K.OW.gst 1 [.slice a1_34 ((applyT ⟨S.q, S.s, S.m⟩ ((ls.getD j op0).kind) ((ls.getD j op0).key) ((ls.getD j op0).val)).1.q.length) c1_35, .slice a2_36 ((applyT ⟨S.q, S.s, S.m⟩ ((ls.getD j op0).kind) ((ls.getD j op0).key) ((ls.getD j op0).val)).1.s.length) c2_37, .slice a3_38 ((applyT ⟨S.q, S.s, S.m⟩ ((ls.getD j op0).kind) ((ls.getD j op0).key) ((ls.getD j op0).val)).1.m.length) c3_39] [.slice a1_34 ((applyT ⟨S.q, S.s, S.m⟩ ((ls.getD j op0).kind) ((ls.getD j op0).key) ((ls.getD j op0).val)).1.q.length) c1_35, .slice a2_36 ((applyT ⟨S.q, S.s, S.m⟩ ((ls.getD j op0).kind) ((ls.getD j op0).key) ((ls.getD j op0).val)).1.s.length) c2_37, .slice a3_38 ((applyT ⟨S.q, S.s, S.m⟩ ((ls.getD j op0).kind) ((ls.getD j op0).key) ((ls.getD j op0).val)).1.m.length) c3_39] hS hg_54 ?_)
      clear hS; intro w g_58 hg_59 hS
      replace hS : K.Sat w0 [g_56, g_58, g1_40, g2_41, g3_42, g_32, o1, g_5, zb, g4, fr] w := hS
      refine K.RW.l rfl (K.OW.gst 0 [.int .i64 ((applyT ⟨S.q, S.s, S.m⟩ ((ls.getD j op0).kind) ((ls.getD j op0).key) ((ls.getD j op0).val)).2.1), .int .u32 ((applyT ⟨S.q, S.s, S.m⟩ ((ls.getD j op0).kind) ((ls.getD j op0).key) ((ls.getD j op0).val)).2.2)] [.int .i64 ((applyT ⟨S.q, S.s, S.m⟩ ((ls.getD j op0).kind) ((ls.getD j op0).key) ((ls.getD j op0).val)).2.1), .int .u32 ((applyT ⟨S.q, S.s, S.m⟩ ((ls.getD j op0).kind) ((ls.getD j op0).key) ((ls.getD j op0).val)).2.2)] hS hg_57 ?_)
      clear hS; intro w g_60 hg_61 hS
      replace hS : K.Sat w0 [g_60, g_58, g1_40, g2_41, g3_42, g_32, o1, g_5, zb, g4, fr] w := hS
      refine K.RW.nil ?_
      refine K.thn_normal ?_
      -- 6 :128
      refine K.KW.gdrawn [1] hS (by kernel_rfl) ?_
      clear hS; intro w hS
      refine K.DW.q 0 (by kernel_rfl) rfl rfl (by kernel_rfl) rfl (fun w hS => K.QR.ldN [.slice a1_34 ((applyT ⟨S.q, S.s, S.m⟩ ((ls.getD j op0).kind) ((ls.getD j op0).key) ((ls.getD j op0).val)).1.q.length) c1_35, .slice a2_36 ((applyT ⟨S.q, S.s, S.m⟩ ((ls.getD j op0).kind) ((ls.getD j op0).key) ((ls.getD j op0).val)).1.s.length) c2_37, .slice a3_38 ((applyT ⟨S.q, S.s, S.m⟩ ((ls.getD j op0).kind) ((ls.getD j op0).key) ((ls.getD j op0).val)).1.m.length) c3_39] rfl rfl (by kernel_rfl) (by kernel_rfl) (K.cells (K.cl ((hS.blk 0 rfl hg_59).cell rfl) (K.cl ((hS.blk 0 rfl hg_59).cell rfl) (K.cl ((hS.blk 0 rfl hg_59).cell rfl) K.cl0))))) (hS.pick [1]) ?_
      refine K.DW.q 1 (by kernel_rfl) rfl rfl (by kernel_rfl) rfl (fun w hS => K.QR.k (v := .slice p1 o.length c1) (by kernel_rfl)) (hS.pick [1]) ?_
      refine K.DW.l 2 rfl (by kernel_rfl) rfl (K.OW.q rfl (K.QR.ldN [.int .i64 ((applyT ⟨S.q, S.s, S.m⟩ ((ls.getD j op0).kind) ((ls.getD j op0).key) ((ls.getD j op0).val)).2.1), .int .u32 ((applyT ⟨S.q, S.s, S.m⟩ ((ls.getD j op0).kind) ((ls.getD j op0).key) ((ls.getD j op0).val)).2.2)] rfl rfl (by kernel_rfl) (by kernel_rfl) (K.cells (K.cl ((hS.blk 0 rfl hg_61).cell rfl) (K.cl ((hS.blk 0 rfl hg_61).cell rfl) K.cl0)))) ?_)
      refine ⟨.inl (hS.pick [1]), ?_⟩
      refine K.DW.l 3 rfl (by kernel_rfl) rfl (K.OW.gbs [(0, .agg #[.int .i64 ((applyT ⟨S.q, S.s, S.m⟩ ((ls.getD j op0).kind) ((ls.getD j op0).key) ((ls.getD j op0).val)).2.1), .int .u32 ((applyT ⟨S.q, S.s, S.m⟩ ((ls.getD j op0).kind) ((ls.getD j op0).key) ((ls.getD j op0).val)).2.2)])] [.int .i64 ((applyT ⟨S.q, S.s, S.m⟩ ((ls.getD j op0).kind) ((ls.getD j op0).key) ((ls.getD j op0).val)).2.1), .int .u32 ((applyT ⟨S.q, S.s, S.m⟩ ((ls.getD j op0).kind) ((ls.getD j op0).key) ((ls.getD j op0).val)).2.2)] hS (fun w => K.bs_run (P := Try.prog) w 47 52 1 _ _ Try.underlying47 (by kernel_rfl)) ?_)
      clear hS; intro w r_62 g_63 hg_64 hS
      refine ⟨.inl (hS.pick [2]), ?_⟩
      refine K.DW.l 4 rfl (by kernel_rfl) rfl (K.OW.gapp (P := Try.prog) (xs := (o).flatMap cRes) (z := .agg #[.int .i64 0, .int .u32 0]) (size := 2) (bytes := 16) 7 [.int .i64 ((applyT ⟨S.q, S.s, S.m⟩ ((ls.getD j op0).kind) ((ls.getD j op0).key) ((ls.getD j op0).val)).2.1), .int .u32 ((applyT ⟨S.q, S.s, S.m⟩ ((ls.getD j op0).kind) ((ls.getD j op0).key) ((ls.getD j op0).val)).2.2)] hS x_25 ?_ (fun j u hj => (by rw [Nat.zero_add]; exact (hS.blk 0 rfl hg_64).cell hj)) (K.one_cells (by rfl)) (by rfl) Try.underlying47 (by kernel_rfl) rfl (by decide) (by unfold maxLen; omega) (by omega))
      clear hS; intro a_65 cap_66 w l_67 o_68 hS
      have ln_69 : ((o ++ [(((applyT ⟨S.q, S.s, S.m⟩ ((ls.getD j op0).kind) ((ls.getD j op0).key) ((ls.getD j op0).val)).2.1, (applyT ⟨S.q, S.s, S.m⟩ ((ls.getD j op0).kind) ((ls.getD j op0).key) ((ls.getD j op0).val)).2.2) : Int × Int)])).length = o.length + 1 := by rw [List.length_append]; rfl
      have o_68c := K.OwnG.cast (xs' := ((o ++ [(((applyT ⟨S.q, S.s, S.m⟩ ((ls.getD j op0).kind) ((ls.getD j op0).key) ((ls.getD j op0).val)).2.1, (applyT ⟨S.q, S.s, S.m⟩ ((ls.getD j op0).kind) ((ls.getD j op0).key) ((ls.getD j op0).val)).2.2) : Int × Int)])).flatMap cRes) o_68 rfl (K.fl_snoc cRes o _ rfl)
      replace hS : K.Sat w0 [g_63, g_60, g_58, g1_40, g2_41, g3_42, g_32, l_67, g_5, zb, g4, fr] w := hS
      refine ⟨.inl (hS.pick [2]), ?_⟩
      refine K.DW.l 5 rfl (by kernel_rfl) rfl (K.OW.gst 9 [.slice a1_34 ((applyT ⟨S.q, S.s, S.m⟩ ((ls.getD j op0).kind) ((ls.getD j op0).key) ((ls.getD j op0).val)).1.q.length) c1_35, .slice a2_36 ((applyT ⟨S.q, S.s, S.m⟩ ((ls.getD j op0).kind) ((ls.getD j op0).key) ((ls.getD j op0).val)).1.s.length) c2_37, .slice a3_38 ((applyT ⟨S.q, S.s, S.m⟩ ((ls.getD j op0).kind) ((ls.getD j op0).key) ((ls.getD j op0).val)).1.m.length) c3_39] [.slice a1_34 ((applyT ⟨S.q, S.s, S.m⟩ ((ls.getD j op0).kind) ((ls.getD j op0).key) ((ls.getD j op0).val)).1.q.length) c1_35, .slice a2_36 ((applyT ⟨S.q, S.s, S.m⟩ ((ls.getD j op0).kind) ((ls.getD j op0).key) ((ls.getD j op0).val)).1.s.length) c2_37, .slice a3_38 ((applyT ⟨S.q, S.s, S.m⟩ ((ls.getD j op0).kind) ((ls.getD j op0).key) ((ls.getD j op0).val)).1.m.length) c3_39] hS x_21 ?_)
      clear hS; intro w g_70 hg_71 hS
      replace hS : K.Sat w0 [g_63, g_60, g_58, g1_40, g2_41, g3_42, g_32, l_67, g_5, g_70, g4, fr] w := hS
      refine ⟨.inl (hS.pick [2]), ?_⟩
      refine K.DW.l 6 rfl (by kernel_rfl) rfl (K.OW.q rfl (K.QR.k (v := .slice a_65 (o.length + 1) cap_66) (by kernel_rfl)) ?_)
      refine ⟨.inl (hS.pick [2]), ?_⟩
      refine K.DW.done (by kernel_rfl) ?_
      refine K.blk_normal ?_
      refine K.thn_normal ?_
      -- 7 :126
      refine K.KW.region ?_
      refine K.RW.q rfl rfl (K.QR.n64 ((((j : Nat) : Int) : Int) + (1 : Int)) ((j + 1 : Nat) : Int) (by kernel_rfl) (by omega)) ?_
      refine K.RW.qs [.int .i64 ((j + 1 : Nat) : Int)] (by kernel_rfl) ?_
      refine K.RW.nil ?_
      refine K.thn_normal ?_
      refine ⟨_, ?_, j + 1, (applyT ⟨S.q, S.s, S.m⟩ ((ls.getD j op0).kind) ((ls.getD j op0).key) ((ls.getD j op0).val)).1, (o ++ [(((applyT ⟨S.q, S.s, S.m⟩ ((ls.getD j op0).kind) ((ls.getD j op0).key) ((ls.getD j op0).val)).2.1, (applyT ⟨S.q, S.s, S.m⟩ ((ls.getD j op0).kind) ((ls.getD j op0).key) ((ls.getD j op0).val)).2.2) : Int × Int)]), a_65, cap_66, a1_34, c1_35, a2_36, c2_37, a3_38, c3_39, g_70, g1_40, g2_41, g3_42, l_67, rfl, ⟨by rfl, by rfl, by rfl, by rfl, by rfl, congrArg (fun m_ => Value.slice a_65 m_ cap_66) (by first | rfl | omega : o.length + 1 = ((o ++ [(((applyT ⟨S.q, S.s, S.m⟩ ((ls.getD j op0).kind) ((ls.getD j op0).key) ((ls.getD j op0).val)).2.1, (applyT ⟨S.q, S.s, S.m⟩ ((ls.getD j op0).kind) ((ls.getD j op0).key) ((ls.getD j op0).val)).2.2) : Int × Int)])).length), by rfl, by rfl, by rfl, by rfl, trivial⟩, (by omega), (runT_next hrun (by omega)), (by omega), (by omega), (by omega), (by assumption), (by assumption), (by assumption), (by omega), hg_71, x1_43, x2_44, x3_45, (by first | exact o_68c | (have h := o_68c; simpa using h)), hS.pick [7, 8, 9, 3, 4, 5, 10, 11]⟩
      omega
    ·  -- no
      refine K.RW.q rfl rfl (K.QR.nice (v := .bool (decide ((((j : Nat) : Int) : Int) < (((ls.length : Nat) : Int) : Int)))) (by kernel_rfl) (congrArg Value.bool (decide_eq_false h_26))) ?_
      refine K.RW.nil ?_
      refine K.thn_normal ?_
      refine K.KW.seq ?_
      refine K.KW.ifF rfl ?_
      refine K.KW.exit ?_
      refine K.thn_exit ?_
      refine K.thn_exit ?_
      refine K.blk_hit ?_
      refine K.thn_normal ?_
      refine K.KW.seq ?_
      -- 8 :130
      refine K.KW.region ?_
      refine K.RW.q rfl rfl (K.QR.ldN [.slice zq S.q.length zd, .slice zs S.s.length ze, .slice zm S.m.length zf] rfl rfl (by kernel_rfl) (by kernel_rfl) (K.cells (K.cl ((hS.blk 2 rfl x_21).cell rfl) (K.cl ((hS.blk 2 rfl x_21).cell rfl) (K.cl ((hS.blk 2 rfl x_21).cell rfl) K.cl0))))) ?_
      refine K.RW.qs [.slice p1 o.length c1] (by kernel_rfl) ?_
      refine K.RW.l rfl (K.OW.gst 1 [.slice zq S.q.length zd, .slice zs S.s.length ze, .slice zm S.m.length zf] [.slice zq S.q.length zd, .slice zs S.s.length ze, .slice zm S.m.length zf] hS hg_6 ?_)
      clear hS; intro w g_72 hg_73 hS
      replace hS : K.Sat w0 [o1, g_72, zb, zg, zh, zi, g4, fr] w := hS
      refine K.RW.qs [.slice p1 o.length c1] (by kernel_rfl) ?_
      refine K.RW.nil ?_
      refine K.thn_normal ?_
      refine K.KW.ret ?_
      have hT : runT ⟨qa, sa, ma⟩ ls = (S, o) := by rw [← hrun, List.take_of_length_le (by omega)]
      rw [hT]
      refine ⟨.inr rfl, rfl, (.tuple #[.agg #[.slice zq S.q.length zd, .slice zs S.s.length ze, .slice zm S.m.length zf], .slice p1 o.length c1]), K.resAt (rs := [.cell 4 42, .tmp 5]) [.agg #[.slice zq S.q.length zd, .slice zs S.s.length ze, .slice zm S.m.length zf], .slice p1 o.length c1] rfl ⟨⟨_, rfl, K.lvN [.slice zq S.q.length zd, .slice zs S.s.length ze, .slice zm S.m.length zf] (by kernel_rfl) (by kernel_rfl) (K.cells (K.cl ((hS.blk 1 rfl hg_73).cell rfl) (K.cl ((hS.blk 1 rfl hg_73).cell rfl) (K.cl ((hS.blk 1 rfl hg_73).cell rfl) K.cl0))))⟩, rfl, trivial⟩, [zg, zh, zi, g4, o1], ?_, hS.pick [3, 4, 5, 6, 0, 7]⟩
      exact ⟨zq, zd, zs, ze, zm, zf, p1, c1, zg, zh, zi, o1, rfl, rfl, x_22, x_23, x_24, x_25⟩

end Go.Proofs.Ytgeihjiichdpbaa
