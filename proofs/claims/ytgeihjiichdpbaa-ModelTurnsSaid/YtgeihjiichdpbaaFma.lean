/- Apply: the code's and the document's. -/
import Derived.Test.YtgeihjiichdpbaaFmr
namespace Go.Proofs.Ytgeihjiichdpbaa
open Go.RowKit
set_option linter.unusedVariables false
attribute [local irreducible] K.KW K.RW K.DW K.OW K.QR K.KC

/-- a list of numbers that can be read wherever the group holds -/
abbrev RdU (w0 : World) (g : K.Cs) (a : Option Addr) (L : List Int) : Prop := ∀ w, K.Sat w0 [g] w → K.RowE w a L.length 1 (fun i => cU32 (L.getD i 0))
abbrev RdP (w0 : World) (g : K.Cs) (a : Option Addr) (L : List PairM) : Prop := ∀ w, K.Sat w0 [g] w → K.RowE w a L.length 2 (fun i => cPair (L.getD i p0))
theorem rdU_own {w0 : World} {g : K.Cs} {a : Option Addr} {n c : Nat} {L : List Int} (h : K.OwnG g 43 1 a n c (L.flatMap cU32)) (ln : L.length = n) : RdU w0 g a L := fun w hS => by
  subst ln
  exact K.Own.rowE 0 (hS.ownr 0 rfl h) rfl (fun _ => rfl)
theorem rdP_own {w0 : World} {g : K.Cs} {a : Option Addr} {n c : Nat} {L : List PairM} (h : K.OwnG g 121 2 a n c (L.flatMap cPair)) (ln : L.length = n) : RdP w0 g a L := fun w hS => by
  subst ln
  exact K.Own.rowE p0 (hS.ownr 0 rfl h) rfl (fun _ => rfl)
theorem rdU_tail {w0 : World} {g : K.Cs} {a : Option Addr} {cap : Nat} {L : List Int} (x : RdU w0 g a L) (h1 : ¬ L.length = 0) (hc : L.length ≤ cap) : RdU w0 g (K.shift a cap 1 1) (L.drop 1) := fun w h => by
  rw [List.length_drop]
  refine ((x w h).part 1 (L.length - 1) (by omega) hc).congr fun j hj => ?_
  show cU32 _ = cU32 _
  rw [List.getD_eq_getElem?_getD, List.getD_eq_getElem?_getD, List.getElem?_drop]
/-- the answer of Apply -/
def ApR (w0 : World) (T : StM × Int × Int) (v : Value) (post : List K.Cs) : Prop :=
  ∃ (a1 : Option Addr) (c1 : Nat) (a2 : Option Addr) (c2 : Nat) (a3 : Option Addr) (c3 : Nat) (g1 g2 g3 : K.Cs),
    v = .tuple #[.agg #[.slice a1 T.1.q.length c1, .slice a2 T.1.s.length c2, .slice a3 T.1.m.length c3], .agg #[.int .i64 T.2.1, .int .u32 T.2.2]] ∧ post = [g1, g2, g3] ∧ RdU w0 g1 a1 T.1.q ∧ RdU w0 g2 a2 T.1.s ∧ RdP w0 g3 a3 T.1.m ∧ T.1.q.length ≤ c1
theorem applyG_ok (w0 : World) (q s m : Option Addr) (cq cs cm : Nat) (qa sa : List Int) (ma : List PairM) (kind key val : Int) (h1 : qa.length ≤ 1000000) (h2 : sa.length ≤ 1000000) (h3 : ma.length ≤ 1000000) (hr1 : rising sa) (hr2 : rising (keysP ma)) (hc : qa.length ≤ cq)
    (g1 g2 g3 : K.Cs) (x1 : RdU w0 g1 q qa) (x2 : RdU w0 g2 s sa) (x3 : RdP w0 g3 m ma) :
    K.GC Try.prog w0 28 #[.agg #[.slice q qa.length cq, .slice s sa.length cs, .slice m ma.length cm], .agg #[.int .i64 kind, .int .u32 key, .int .u32 val]] [g1, g2, g3] (ApR w0 (applyT ⟨qa, sa, ma⟩ kind key val)) := fun fr w hS => by
  refine K.KC.mono (apply_ok q s m cq cs cm qa sa ma kind key val w h1 h2 h3 hr1 hr2 (x1 _ (hS.pick [0])) (x2 _ (hS.pick [1])) (x3 _ (hS.pick [2]))) ?_
  generalize applyT ⟨qa, sa, ma⟩ kind key val = T
  obtain ⟨⟨Tq, Ts, Tm⟩, rk, rv⟩ := T
  rintro v w' ⟨hch, ⟨a', c', rfl, ho, e1, e2⟩ | ⟨a', c', rfl, ho, e1, e2⟩ | ⟨a', c', rfl, ho, e1, e2⟩ | ⟨rfl, e1⟩⟩
  · obtain ⟨l, hl, hS'⟩ := hS.rnew hch ho (Nat.le_refl _)
    simp only at e1 e2; subst e1 e2
    exact ⟨[l, g2, g3], ⟨_, _, _, _, _, _, l, g2, g3, rfl, rfl, rdU_own hl rfl, x2, x3, hl.le.1⟩, hS'.pick [0, 2, 3, 4]⟩
  · obtain ⟨l, hl, hS'⟩ := hS.rnew hch ho (Nat.le_refl _)
    simp only at e1 e2; subst e1 e2
    exact ⟨[g1, l, g3], ⟨_, _, _, _, _, _, g1, l, g3, rfl, rfl, x1, rdU_own hl rfl, x3, hc⟩, hS'.pick [1, 0, 3, 4]⟩
  · obtain ⟨l, hl, hS'⟩ := hS.rnew hch ho (Nat.le_refl _)
    simp only at e1 e2; subst e1 e2
    exact ⟨[g1, g2, l], ⟨_, _, _, _, _, _, g1, g2, l, rfl, rfl, x1, x2, rdP_own hl rfl, hc⟩, hS'.pick [1, 2, 0, 4]⟩
  · simp only [StM.mk.injEq] at e1
    obtain ⟨rfl, rfl, rfl⟩ := e1
    exact ⟨[g1, g2, g3], ⟨_, _, _, _, _, _, g1, g2, g3, rfl, rfl, x1, x2, x3, hc⟩, hS.no hch⟩
/-! ### what Apply makes, by the kinds -/
theorem rises_idI {xs : List Int} (h : rising xs) : Rises idI xs := rises_of h
theorem rises_key {xs : List PairM} (h : rising (keysP xs)) : Rises PairM.key xs := Rises.rising.2 h
theorem map_idI (xs : List Int) : xs.map idI = xs := List.map_id xs
section
variable {q s : List Int} {m : List PairM} {k v : Int}
theorem hasS (hr : rising s) : hasT s k = anyT idI k s := by rw [anyT_get, ← has_get (rises_idI hr), map_idI]
theorem hasM (hr : rising (keysP m)) : hasT (keysP m) k = anyT PairM.key k m := by rw [anyT_get, ← has_get (rises_key hr)]; rfl
theorem setT_eq (hr : rising s) (kind : Int) : setT s kind k = if anyT idI k s = true then (if kind = 4 then (keysR idI k k false s, 1) else (s, 3)) else if kind = 3 then (keysR idI k k true s, 1) else (s, 4) := by
  have hi := rises_idI hr
  unfold setT
  rw [hasS hr]
  cases h : anyT idI k s with
  | true =>
    simp only [if_true]
    rw [keysR_cut]
    rw [anyT_get] at h
    have := del_cut hi h
    rw [map_idI] at this
    rw [this]
  | false =>
    simp only [Bool.false_eq_true, if_false]
    rw [anyT_get] at h
    have hn : getT idI s k = none := by simpa using h
    rw [keysR_put hn]
    have := ins_put (f := idI) (k := k) s k
    rw [map_idI] at this
    rw [this]
theorem pairsT_eq (hr : rising (keysP m)) (kind : Int) : pairsT m kind k v = if anyT PairM.key k m = true then (if kind = 8 then (keysR PairM.key k ⟨k, v⟩ false m, 1, (lastT PairM.key k p0 m).val) else (m, 3, (lastT PairM.key k p0 m).val)) else if kind = 6 then (keysR PairM.key k ⟨k, v⟩ true m, 1, (lastT PairM.key k p0 m).val) else (m, 4, 0) := by
  have hi := rises_key hr
  unfold pairsT
  rw [hasM hr]
  cases h : anyT PairM.key k m with
  | true =>
    simp only [if_true]
    rw [keysR_cut]
    rw [anyT_get] at h
    have := del_cut hi h
    obtain ⟨x, hx⟩ := Option.isSome_iff_exists.1 h
    have h2 := at_get hi p0 hx
    unfold keysP
    rw [this, h2, lastT_get hi, hx]; rfl
  | false =>
    simp only [Bool.false_eq_true, if_false]
    rw [anyT_get] at h
    have hn : getT PairM.key m k = none := by simpa using h
    rw [keysR_put hn]
    have := ins_put (f := PairM.key) (k := k) m ⟨k, v⟩
    unfold keysP
    rw [this, lastT_get hi, hn]; rfl
theorem ap1 : applyT ⟨q, s, m⟩ 1 k v = (⟨q ++ [v], s, m⟩, 1, 0) := by simp [applyT, queueT, insT]
theorem ap2e (h : q.length = 0) : applyT ⟨q, s, m⟩ 2 k v = (⟨q, s, m⟩, 2, 0) := by simp [applyT, queueT, h]
theorem ap2 (h : ¬ q.length = 0) : applyT ⟨q, s, m⟩ 2 k v = (⟨q.drop 1, s, m⟩, 1, q.getD 0 0) := by simp [applyT, queueT, delT, h]
theorem apS (hr : rising s) {kind : Int} (h : 3 ≤ kind ∧ kind ≤ 5) : applyT ⟨q, s, m⟩ kind k v = if anyT idI k s = true then (if kind = 4 then (⟨q, keysR idI k k false s, m⟩, 1, 0) else (⟨q, s, m⟩, 3, 0)) else if kind = 3 then (⟨q, keysR idI k k true s, m⟩, 1, 0) else (⟨q, s, m⟩, 4, 0) := by
  unfold applyT
  rw [if_neg (by omega), if_pos h]
  simp only []
  rw [setT_eq hr]
  (repeat' split) <;> rfl
theorem apM (hr : rising (keysP m)) {kind : Int} (h : 6 ≤ kind ∧ kind ≤ 8) : applyT ⟨q, s, m⟩ kind k v = if anyT PairM.key k m = true then (if kind = 8 then (⟨q, s, keysR PairM.key k ⟨k, v⟩ false m⟩, 1, (lastT PairM.key k p0 m).val) else (⟨q, s, m⟩, 3, (lastT PairM.key k p0 m).val)) else if kind = 6 then (⟨q, s, keysR PairM.key k ⟨k, v⟩ true m⟩, 1, (lastT PairM.key k p0 m).val) else (⟨q, s, m⟩, 4, 0) := by
  unfold applyT
  rw [if_neg (by omega), if_neg (by omega), if_pos h]
  simp only []
  rw [pairsT_eq hr]
  (repeat' split) <;> rfl
theorem apN {kind : Int} (h : ¬ (1 ≤ kind ∧ kind ≤ 8)) : applyT ⟨q, s, m⟩ kind k v = (⟨q, s, m⟩, 0, 0) := by
  unfold applyT
  rw [if_neg (by omega), if_neg (by omega), if_neg (by omega)]
end
theorem tk_len {α : Type} {xs : List α} {j : Nat} (h : j ≤ xs.length) : (xs.take j).length = j := by rw [List.length_take]; omega
theorem tk_snoc {α : Type} {xs : List α} {d : α} {j : Nat} (h : j < xs.length) : xs.take (j + 1) = xs.take j ++ [xs.getD j d] := by
  rw [List.take_succ_eq_append_getElem h]; simp [h]
theorem anyT_next {α : Type} {f : α → Int} {k : Int} {d : α} {xs : List α} {j : Nat} {b : Bool} (h : anyT f k (xs.take j) = b) (hj : j < xs.length) : anyT f k (xs.take (j + 1)) = (b || decide (f (xs.getD j d) = k)) := by rw [anyT_succ hj, h]
theorem any_t {p : Prop} [Decidable p] : (true || decide p) = true := rfl
theorem any_y {p : Prop} [Decidable p] (h : p) : (false || decide p) = true := by simp [h]
theorem any_n {p : Prop} [Decidable p] (h : ¬ p) : (false || decide p) = false := by simp [h]
theorem any_y2 {p : Prop} [Decidable p] (b : Bool) (h : p) : (b || decide p) = true := by simp [h]
theorem any_n2 {p : Prop} [Decidable p] (b : Bool) (h : ¬ p) : (b || decide p) = b := by simp [h]
theorem last_y {k : Int} {m : List PairM} {j : Nat} (hj : j < m.length) (h : (m.getD j p0).key = k) : (m.getD j p0).val = (lastT PairM.key k p0 (m.take (j + 1))).val := by rw [lastT_succ (d := p0) hj, if_pos h]
theorem last_n {k v : Int} {m : List PairM} {j : Nat} (hv : v = (lastT PairM.key k p0 (m.take j)).val) (hj : j < m.length) (h : ¬ (m.getD j p0).key = k) : v = (lastT PairM.key k p0 (m.take (j + 1))).val := by rw [lastT_succ (d := p0) hj, if_neg h]; exact hv

set_option maxHeartbeats 1000000 in
set_option maxRecDepth 100000 in
theorem rapply1_ok (w0 : World) (q s m : Option Addr) (cq cs cm : Nat) (qa sa : List Int) (ma : List PairM) (key val : Int) (h1 : qa.length ≤ 1000000) (h2 : sa.length ≤ 1000000) (h3 : ma.length ≤ 1000000) (hr1 : rising sa) (hr2 : rising (keysP ma)) (hc : qa.length ≤ cq) (g1 : K.Cs) (x1 : ∀ w, K.Sat w0 [g1] w → K.RowE w q qa.length 1 (fun i => cU32 (qa.getD i 0))) (g2 : K.Cs) (x2 : ∀ w, K.Sat w0 [g2] w → K.RowE w s sa.length 1 (fun i => cU32 (sa.getD i 0))) (g3 : K.Cs) (x3 : ∀ w, K.Sat w0 [g3] w → K.RowE w m ma.length 2 (fun i => cPair (ma.getD i p0))) :
    K.GC Try.prog w0 33 #[.agg #[.slice q qa.length cq, .slice s sa.length cs, .slice m ma.length cm], .agg #[.int .i64 1, .int .u32 key, .int .u32 val]] [g1, g2, g3] (ApR w0 (applyT ⟨qa, sa, ma⟩ 1 key val)) := by
  refine K.GC.mk (n := 192) Try.func33 rfl rfl [.agg #[.slice q qa.length cq, .slice s sa.length cs, .slice m ma.length cm], .agg #[.int .i64 1, .int .u32 key, .int .u32 val]] rfl rfl ?_
  intro fr w hS
  replace hS : K.Sat w0 [g1, g2, g3, fr] w := hS
  refine K.KW.seq ?_
  -- 0 :60
  refine K.KW.region ?_
  refine K.RW.l rfl (K.OW.gnew 42 [.slice q qa.length cq, .slice s sa.length cs, .slice m ma.length cm] hS ?_)
  clear hS; intro w r_1 g_2 hg_3 hS
  refine K.RW.l rfl (K.OW.gnew 45 [.int .i64 1, .int .u32 key, .int .u32 val] hS ?_)
  clear hS; intro w r_4 g_5 hg_6 hS
  refine K.RW.l rfl (K.OW.gnew 42 [.slice none 0 0, .slice none 0 0, .slice none 0 0] hS ?_)
  clear hS; intro w r_7 g_8 hg_9 hS
  refine K.RW.l rfl (K.OW.gnew 52 [.int .i64 0, .int .u32 0] hS ?_)
  clear hS; intro w r_10 g_11 hg_12 hS
  refine K.RW.nil ?_
  refine K.thn_normal ?_
  refine K.KW.seq ?_
  refine K.KW.seq ?_
  -- 1 :61
  refine K.KW.region ?_
  refine K.RW.qs [.pointer (some ⟨r_4, 0, none⟩)] (by kernel_rfl) ?_
  refine K.RW.q rfl rfl (K.QR.ld1 (v := .int .i64 1) rfl rfl (by kernel_rfl) ((hS.blk 2 rfl hg_6).cell rfl)) ?_
  refine K.RW.qs [.bool true] (by kernel_rfl) ?_
  refine K.RW.nil ?_
  refine K.thn_normal ?_
  refine K.KW.ifT rfl ?_
  refine K.KW.seq ?_
  -- 2 :62
  refine K.KW.region ?_
  refine K.RW.qs [.slice none 0 0] (by kernel_rfl) ?_
  refine K.RW.nil ?_
  refine K.thn_normal ?_
  refine K.KW.seq ?_
  refine K.KW.seq ?_
  -- 3 :63
  refine K.KW.region ?_
  refine K.RW.qs [.int .i64 0] (by kernel_rfl) ?_
  refine K.RW.nil ?_
  refine K.thn_normal ?_
  refine K.KW.block ?_
  obtain ⟨z_13, hz_14⟩ : ∃ z : K.Cs, z = [] := ⟨_, rfl⟩
  replace hS : K.Sat w0 [z_13, g_11, g_8, g_5, g_2, g1, g2, g3, fr] w := hS.of (by simp [hz_14])
  have o_15 : K.OwnG z_13 43 1 none 0 0 [] := by rw [hz_14]; exact K.OwnG.nil _ _
  refine K.KW.loop (fun m_ F_ w_ => ∃ (j : Nat) (q1 : Option Addr) (c1 : Nat) (o1 : K.Cs), m_ = qa.length - j ∧ K.Sl F_ [(0, .agg #[.slice q qa.length cq, .slice s sa.length cs, .slice m ma.length cm]), (1, .agg #[.int .i64 1, .int .u32 key, .int .u32 val]), (2, .pointer (some ⟨r_1, 0, none⟩)), (3, .pointer (some ⟨r_4, 0, none⟩)), (4, .pointer (some ⟨r_7, 0, none⟩)), (5, .pointer (some ⟨r_10, 0, none⟩)), (6, .slice q1 j c1), (7, .int .i64 ((j : Nat) : Int)), (192, undef)] ∧ j ≤ qa.length ∧ K.OwnG o1 43 1 q1 j c1 (((qa.take j)).flatMap cU32) ∧ K.Sat w0 [o1, g_11, g_8, g_5, g_2, g1, g2, g3, fr] w_) ((fun (j : Nat) (q1 : Option Addr) (c1 : Nat) => qa.length - j) 0 none 0) ?_ ?_
  · -- begins
    exact ⟨0, none, 0, z_13, rfl, ⟨by rfl, by rfl, by rfl, by rfl, by rfl, by rfl, by rfl, by rfl, by rfl, trivial⟩, (by omega), o_15, hS.pick [0, 1, 2, 3, 4, 5, 6, 7, 8]⟩
  · -- a round
    clear hS
    intro m_16 F_17 w hI
    obtain ⟨j, q1, c1, o1, rfl, sl_18, p_19, x_20, hS⟩ := hI
    rw [← K.Sl.puts sl_18]; clear sl_18
    refine K.KW.seq ?_
    refine K.KW.seq ?_
    -- 4 :63
    refine K.KW.region ?_
    refine K.RW.qs [.int .i64 ((j : Nat) : Int), .pointer (some ⟨r_1, 0, none⟩)] (by kernel_rfl) ?_
    refine K.RW.q rfl rfl (K.QR.ld1 (v := .slice q qa.length cq) rfl rfl (by kernel_rfl) ((hS.blk 4 rfl hg_3).cell rfl)) ?_
    refine K.RW.q rfl rfl (K.QR.len (P := Try.prog) rfl rfl Try.underlying39) ?_
    by_cases h_21 : (((j : Nat) : Int) : Int) < (((qa.length : Nat) : Int) : Int)
    ·  -- yes
      refine K.RW.q rfl rfl (K.QR.nice (v := .bool (decide ((((j : Nat) : Int) : Int) < (((qa.length : Nat) : Int) : Int)))) (by kernel_rfl) (congrArg Value.bool (decide_eq_true h_21))) ?_
      refine K.RW.nil ?_
      refine K.thn_normal ?_
      refine K.KW.ifT rfl ?_
      refine K.KW.skip ?_
      refine K.thn_normal ?_
      refine K.KW.seq ?_
      refine K.KW.block ?_
      -- 6 :64
      obtain ⟨b_22, of_23, rfl, _⟩ := (x1 _ (hS.pick [5])).at_ (by omega)
      refine K.KW.region ?_
      refine K.RW.qs [.slice q1 j c1, .pointer (some ⟨r_1, 0, none⟩)] (by kernel_rfl) ?_
      refine K.RW.q rfl rfl (K.QR.ld1 (v := .slice (some ⟨b_22, of_23, none⟩) qa.length cq) rfl rfl (by kernel_rfl) ((hS.blk 4 rfl hg_3).cell rfl)) ?_
      refine K.RW.qs [.int .i64 ((j : Nat) : Int)] (by kernel_rfl) ?_
      refine K.RW.q rfl rfl (K.QR.ix (of_23 + j * 1) 1 rfl rfl rfl Try.underlying39 (by kernel_rfl) (by omega) (by first | (simp; done) | omega | (simp; omega))) ?_
      refine K.RW.q rfl rfl (K.QR.ld1 (v := .int .u32 (qa.getD j 0)) rfl rfl (by kernel_rfl) ((x1 _ (hS.pick [5])).ld j (by omega) 0 _ rfl)) ?_
      refine K.RW.l rfl (K.OW.gbs [(0, .int .u32 (qa.getD j 0))] [.int .u32 (qa.getD j 0)] hS (fun w => K.bs_run (P := Try.prog) w 39 43 1 _ _ Try.underlying39 (by kernel_rfl)) ?_)
      clear hS; intro w r_24 g_25 hg_26 hS
      refine K.RW.l rfl (K.OW.gapp (P := Try.prog) (xs := ((qa.take j)).flatMap cU32) (z := .int .u32 0) (size := 1) (bytes := 4) 1 [.int .u32 (qa.getD j 0)] hS x_20 ?_ (fun j u hj => (by rw [Nat.zero_add]; exact (hS.blk 0 rfl hg_26).cell hj)) (K.one_cells (by rfl)) (by rfl) Try.underlying39 (by kernel_rfl) rfl (by decide) (by unfold maxLen; omega) (by omega))
      clear hS; intro a_27 cap_28 w l_29 o_30 hS
      have ln_31 : (((qa.take j) ++ [(qa.getD j 0 : Int)])).length = j + 1 := by rw [List.length_append, (tk_len (by omega))]; rfl
      have o_30c := K.OwnG.cast (xs' := (((qa.take j) ++ [(qa.getD j 0 : Int)])).flatMap cU32) o_30 rfl (K.fl_snoc cU32 (qa.take j) _ rfl)
      replace hS : K.Sat w0 [g_25, l_29, g_11, g_8, g_5, g_2, g1, g2, g3, fr] w := hS
      refine K.RW.qs [.slice a_27 (j + 1) cap_28] (by kernel_rfl) ?_
      refine K.RW.nil ?_
      refine K.blk_normal ?_
      refine K.thn_normal ?_
      -- 5 :63
      refine K.KW.region ?_
      refine K.RW.qs [.int .i64 ((j : Nat) : Int)] (by kernel_rfl) ?_
      refine K.RW.q rfl rfl (K.QR.n64 ((((j : Nat) : Int) : Int) + (1 : Int)) ((j + 1 : Nat) : Int) (by kernel_rfl) (by omega)) ?_
      refine K.RW.qs [.int .i64 ((j + 1 : Nat) : Int)] (by kernel_rfl) ?_
      refine K.RW.nil ?_
      refine K.thn_normal ?_
      refine ⟨_, ?_, j + 1, a_27, cap_28, l_29, rfl, ⟨by rfl, by rfl, by rfl, by rfl, by rfl, by rfl, by rfl, by rfl, by rfl, trivial⟩, (by omega), (by rw [tk_snoc (d := 0) (by omega)]; exact o_30c), hS.pick [1, 2, 3, 4, 5, 6, 7, 8, 9]⟩
      omega
    ·  -- no
      refine K.RW.q rfl rfl (K.QR.nice (v := .bool (decide ((((j : Nat) : Int) : Int) < (((qa.length : Nat) : Int) : Int)))) (by kernel_rfl) (congrArg Value.bool (decide_eq_false h_21))) ?_
      refine K.RW.nil ?_
      refine K.thn_normal ?_
      refine K.KW.ifF rfl ?_
      refine K.KW.exit ?_
      refine K.thn_exit ?_
      refine K.thn_exit ?_
      refine K.blk_hit ?_
      refine K.thn_normal ?_
      refine K.KW.seq ?_
      -- 7 :66
      refine K.KW.region ?_
      refine K.RW.qs [.slice q1 j c1, .pointer (some ⟨r_4, 2, none⟩)] (by kernel_rfl) ?_
      refine K.RW.q rfl rfl (K.QR.ld1 (v := .int .u32 val) rfl rfl (by kernel_rfl) ((hS.blk 3 rfl hg_6).cell rfl)) ?_
      refine K.RW.l rfl (K.OW.gbs [(0, .int .u32 val)] [.int .u32 val] hS (fun w => K.bs_run (P := Try.prog) w 39 43 1 _ _ Try.underlying39 (by kernel_rfl)) ?_)
      clear hS; intro w r_32 g_33 hg_34 hS
      refine K.RW.l rfl (K.OW.gapp (P := Try.prog) (xs := ((qa.take j)).flatMap cU32) (z := .int .u32 0) (size := 1) (bytes := 4) 1 [.int .u32 val] hS x_20 ?_ (fun j u hj => (by rw [Nat.zero_add]; exact (hS.blk 0 rfl hg_34).cell hj)) (K.one_cells (by rfl)) (by rfl) Try.underlying39 (by kernel_rfl) rfl (by decide) (by unfold maxLen; omega) (by omega))
      clear hS; intro a_35 cap_36 w l_37 o_38 hS
      have ln_39 : (((qa.take j) ++ [(val : Int)])).length = j + 1 := by rw [List.length_append, (tk_len (by omega))]; rfl
      have o_38c := K.OwnG.cast (xs' := (((qa.take j) ++ [(val : Int)])).flatMap cU32) o_38 rfl (K.fl_snoc cU32 (qa.take j) _ rfl)
      replace hS : K.Sat w0 [g_33, l_37, g_11, g_8, g_5, g_2, g1, g2, g3, fr] w := hS
      refine K.RW.qs [.slice a_35 (j + 1) cap_36] (by kernel_rfl) ?_
      refine K.RW.nil ?_
      refine K.thn_normal ?_
      refine K.KW.seq ?_
      -- 8 :67
      refine K.KW.region ?_
      refine K.RW.qs [.slice a_35 (j + 1) cap_36, .pointer (some ⟨r_1, 0, none⟩)] (by kernel_rfl) ?_
      refine K.RW.l rfl (K.OW.gst 5 [.slice a_35 (j + 1) cap_36] [.slice a_35 (j + 1) cap_36, .slice s sa.length cs, .slice m ma.length cm] hS hg_3 ?_)
      clear hS; intro w g_40 hg_41 hS
      replace hS : K.Sat w0 [g_33, l_37, g_11, g_8, g_5, g_40, g1, g2, g3, fr] w := hS
      refine K.RW.nil ?_
      refine K.thn_normal ?_
      refine K.KW.seq ?_
      -- 9 :68
      refine K.KW.region ?_
      refine K.RW.q rfl rfl (K.QR.ldN [.slice a_35 (j + 1) cap_36, .slice s sa.length cs, .slice m ma.length cm] rfl rfl (by kernel_rfl) (by kernel_rfl) (K.cells (K.cl ((hS.blk 5 rfl hg_41).cell rfl) (K.cl ((hS.blk 5 rfl hg_41).cell rfl) (K.cl ((hS.blk 5 rfl hg_41).cell rfl) K.cl0))))) ?_
      refine K.RW.q rfl rfl (K.QR.bd [(0, .int .i64 1)] [.int .i64 1, .int .u32 0] rfl rfl (by kernel_rfl)) ?_
      refine K.RW.l rfl (K.OW.gst 3 [.slice a_35 (j + 1) cap_36, .slice s sa.length cs, .slice m ma.length cm] [.slice a_35 (j + 1) cap_36, .slice s sa.length cs, .slice m ma.length cm] hS hg_9 ?_)
      clear hS; intro w g_42 hg_43 hS
      replace hS : K.Sat w0 [g_33, l_37, g_11, g_42, g_5, g_40, g1, g2, g3, fr] w := hS
      refine K.RW.l rfl (K.OW.gst 2 [.int .i64 1, .int .u32 0] [.int .i64 1, .int .u32 0] hS hg_12 ?_)
      clear hS; intro w g_44 hg_45 hS
      replace hS : K.Sat w0 [g_33, l_37, g_44, g_42, g_5, g_40, g1, g2, g3, fr] w := hS
      refine K.RW.nil ?_
      refine K.thn_normal ?_
      refine K.KW.ret ?_
      refine K.thn_ret ?_
      have hA : applyT ⟨qa, sa, ma⟩ 1 key val = (⟨((qa.take j) ++ [(val : Int)]), sa, ma⟩, 1, 0) := by rw [ap1, List.take_of_length_le (by omega)]
      rw [hA]
      refine ⟨.inr rfl, rfl, (.tuple #[.agg #[.slice a_35 (j + 1) cap_36, .slice s sa.length cs, .slice m ma.length cm], .agg #[.int .i64 1, .int .u32 0]]), K.resAt (rs := [.cell 4 42, .cell 5 52]) [.agg #[.slice a_35 (j + 1) cap_36, .slice s sa.length cs, .slice m ma.length cm], .agg #[.int .i64 1, .int .u32 0]] rfl ⟨⟨_, rfl, K.lvN [.slice a_35 (j + 1) cap_36, .slice s sa.length cs, .slice m ma.length cm] (by kernel_rfl) (by kernel_rfl) (K.cells (K.cl ((hS.blk 3 rfl hg_43).cell rfl) (K.cl ((hS.blk 3 rfl hg_43).cell rfl) (K.cl ((hS.blk 3 rfl hg_43).cell rfl) K.cl0))))⟩, ⟨_, rfl, K.lvN [.int .i64 1, .int .u32 0] (by kernel_rfl) (by kernel_rfl) (K.cells (K.cl ((hS.blk 2 rfl hg_45).cell rfl) (K.cl ((hS.blk 2 rfl hg_45).cell rfl) K.cl0)))⟩, trivial⟩, [l_37, g2, g3], ?_, hS.pick [1, 7, 8, 9]⟩
      exact ⟨a_35, cap_36, s, cs, m, cm, l_37, g2, g3, by rw [show j + 1 = (((qa.take j) ++ [(val : Int)])).length from by first | omega | (simp; done)], rfl, rdU_own o_38c ln_39, x2, x3, (by show (((qa.take j) ++ [(val : Int)])).length ≤ _; have h := o_38c.le.1; have e := ln_39; omega)⟩

set_option maxHeartbeats 1000000 in
set_option maxRecDepth 100000 in
theorem rapply2_ok (w0 : World) (q s m : Option Addr) (cq cs cm : Nat) (qa sa : List Int) (ma : List PairM) (key val : Int) (h1 : qa.length ≤ 1000000) (h2 : sa.length ≤ 1000000) (h3 : ma.length ≤ 1000000) (hr1 : rising sa) (hr2 : rising (keysP ma)) (hc : qa.length ≤ cq) (g1 : K.Cs) (x1 : ∀ w, K.Sat w0 [g1] w → K.RowE w q qa.length 1 (fun i => cU32 (qa.getD i 0))) (g2 : K.Cs) (x2 : ∀ w, K.Sat w0 [g2] w → K.RowE w s sa.length 1 (fun i => cU32 (sa.getD i 0))) (g3 : K.Cs) (x3 : ∀ w, K.Sat w0 [g3] w → K.RowE w m ma.length 2 (fun i => cPair (ma.getD i p0))) :
    K.GC Try.prog w0 33 #[.agg #[.slice q qa.length cq, .slice s sa.length cs, .slice m ma.length cm], .agg #[.int .i64 2, .int .u32 key, .int .u32 val]] [g1, g2, g3] (ApR w0 (applyT ⟨qa, sa, ma⟩ 2 key val)) := by
  refine K.GC.mk (n := 192) Try.func33 rfl rfl [.agg #[.slice q qa.length cq, .slice s sa.length cs, .slice m ma.length cm], .agg #[.int .i64 2, .int .u32 key, .int .u32 val]] rfl rfl ?_
  intro fr w hS
  replace hS : K.Sat w0 [g1, g2, g3, fr] w := hS
  refine K.KW.seq ?_
  -- 0 :60
  refine K.KW.region ?_
  refine K.RW.l rfl (K.OW.gnew 42 [.slice q qa.length cq, .slice s sa.length cs, .slice m ma.length cm] hS ?_)
  clear hS; intro w r_1 g_2 hg_3 hS
  refine K.RW.l rfl (K.OW.gnew 45 [.int .i64 2, .int .u32 key, .int .u32 val] hS ?_)
  clear hS; intro w r_4 g_5 hg_6 hS
  refine K.RW.l rfl (K.OW.gnew 42 [.slice none 0 0, .slice none 0 0, .slice none 0 0] hS ?_)
  clear hS; intro w r_7 g_8 hg_9 hS
  refine K.RW.l rfl (K.OW.gnew 52 [.int .i64 0, .int .u32 0] hS ?_)
  clear hS; intro w r_10 g_11 hg_12 hS
  refine K.RW.nil ?_
  refine K.thn_normal ?_
  refine K.KW.seq ?_
  refine K.KW.seq ?_
  -- 1 :61
  refine K.KW.region ?_
  refine K.RW.qs [.pointer (some ⟨r_4, 0, none⟩)] (by kernel_rfl) ?_
  refine K.RW.q rfl rfl (K.QR.ld1 (v := .int .i64 2) rfl rfl (by kernel_rfl) ((hS.blk 2 rfl hg_6).cell rfl)) ?_
  refine K.RW.qs [.bool false] (by kernel_rfl) ?_
  refine K.RW.nil ?_
  refine K.thn_normal ?_
  refine K.KW.ifF rfl ?_
  refine K.KW.skip ?_
  refine K.thn_normal ?_
  refine K.KW.seq ?_
  refine K.KW.seq ?_
  -- 10 :70
  refine K.KW.region ?_
  refine K.RW.qs [.pointer (some ⟨r_4, 0, none⟩)] (by kernel_rfl) ?_
  refine K.RW.q rfl rfl (K.QR.ld1 (v := .int .i64 2) rfl rfl (by kernel_rfl) ((hS.blk 2 rfl hg_6).cell rfl)) ?_
  refine K.RW.qs [.bool true, .bool true, .pointer (some ⟨r_1, 0, none⟩)] (by kernel_rfl) ?_
  refine K.RW.q rfl (by kernel_rfl) (K.QR.ld1 (v := .slice q qa.length cq) rfl rfl (by kernel_rfl) ((hS.blk 3 rfl hg_3).cell rfl)) ?_
  refine K.RW.q rfl (by kernel_rfl) (K.QR.len (P := Try.prog) rfl rfl Try.underlying39) ?_
  by_cases h_13 : (((qa.length : Nat) : Int) : Int) = (0 : Int)
  ·  -- yes
    refine K.RW.q rfl (by kernel_rfl) (K.QR.nice (v := .bool ((((qa.length : Nat) : Int) : Int) == (0 : Int))) (by kernel_rfl) (congrArg Value.bool (beq_iff_eq.2 h_13))) ?_
    refine K.RW.qs [.bool true] (by kernel_rfl) ?_
    refine K.RW.nil ?_
    refine K.thn_normal ?_
    refine K.KW.ifT rfl ?_
    refine K.KW.seq ?_
    -- 11 :71
    refine K.KW.region ?_
    refine K.RW.q rfl rfl (K.QR.ldN [.slice q qa.length cq, .slice s sa.length cs, .slice m ma.length cm] rfl rfl (by kernel_rfl) (by kernel_rfl) (K.cells (K.cl ((hS.blk 3 rfl hg_3).cell rfl) (K.cl ((hS.blk 3 rfl hg_3).cell rfl) (K.cl ((hS.blk 3 rfl hg_3).cell rfl) K.cl0))))) ?_
    refine K.RW.q rfl rfl (K.QR.bd [(0, .int .i64 2)] [.int .i64 2, .int .u32 0] rfl rfl (by kernel_rfl)) ?_
    refine K.RW.l rfl (K.OW.gst 1 [.slice q qa.length cq, .slice s sa.length cs, .slice m ma.length cm] [.slice q qa.length cq, .slice s sa.length cs, .slice m ma.length cm] hS hg_9 ?_)
    clear hS; intro w g_14 hg_15 hS
    replace hS : K.Sat w0 [g_11, g_14, g_5, g_2, g1, g2, g3, fr] w := hS
    refine K.RW.l rfl (K.OW.gst 0 [.int .i64 2, .int .u32 0] [.int .i64 2, .int .u32 0] hS hg_12 ?_)
    clear hS; intro w g_16 hg_17 hS
    replace hS : K.Sat w0 [g_16, g_14, g_5, g_2, g1, g2, g3, fr] w := hS
    refine K.RW.nil ?_
    refine K.thn_normal ?_
    refine K.KW.ret ?_
    refine K.thn_ret ?_
    have hA : applyT ⟨qa, sa, ma⟩ 2 key val = (⟨qa, sa, ma⟩, 2, 0) := ap2e (by omega)
    rw [hA]
    refine ⟨.inr rfl, rfl, (.tuple #[.agg #[.slice q qa.length cq, .slice s sa.length cs, .slice m ma.length cm], .agg #[.int .i64 2, .int .u32 0]]), K.resAt (rs := [.cell 4 42, .cell 5 52]) [.agg #[.slice q qa.length cq, .slice s sa.length cs, .slice m ma.length cm], .agg #[.int .i64 2, .int .u32 0]] rfl ⟨⟨_, rfl, K.lvN [.slice q qa.length cq, .slice s sa.length cs, .slice m ma.length cm] (by kernel_rfl) (by kernel_rfl) (K.cells (K.cl ((hS.blk 1 rfl hg_15).cell rfl) (K.cl ((hS.blk 1 rfl hg_15).cell rfl) (K.cl ((hS.blk 1 rfl hg_15).cell rfl) K.cl0))))⟩, ⟨_, rfl, K.lvN [.int .i64 2, .int .u32 0] (by kernel_rfl) (by kernel_rfl) (K.cells (K.cl ((hS.blk 0 rfl hg_17).cell rfl) (K.cl ((hS.blk 0 rfl hg_17).cell rfl) K.cl0)))⟩, trivial⟩, [g1, g2, g3], ?_, hS.pick [4, 5, 6, 7]⟩
    exact ⟨q, cq, s, cs, m, cm, g1, g2, g3, rfl, rfl, x1, x2, x3, hc⟩
  ·  -- no
    refine K.RW.q rfl (by kernel_rfl) (K.QR.nice (v := .bool ((((qa.length : Nat) : Int) : Int) == (0 : Int))) (by kernel_rfl) (congrArg Value.bool (beq_eq_false_iff_ne.2 h_13))) ?_
    refine K.RW.qs [.bool false] (by kernel_rfl) ?_
    refine K.RW.nil ?_
    refine K.thn_normal ?_
    refine K.KW.ifF rfl ?_
    refine K.KW.skip ?_
    refine K.thn_normal ?_
    refine K.KW.seq ?_
    refine K.KW.seq ?_
    -- 12 :73
    refine K.KW.region ?_
    refine K.RW.qs [.pointer (some ⟨r_4, 0, none⟩)] (by kernel_rfl) ?_
    refine K.RW.q rfl rfl (K.QR.ld1 (v := .int .i64 2) rfl rfl (by kernel_rfl) ((hS.blk 2 rfl hg_6).cell rfl)) ?_
    refine K.RW.qs [.bool true] (by kernel_rfl) ?_
    refine K.RW.nil ?_
    refine K.thn_normal ?_
    refine K.KW.ifT rfl ?_
    refine K.KW.seq ?_
    -- 13 :74
    obtain ⟨b_18, of_19, rfl, _⟩ := (x1 _ (hS.pick [4])).at_ (by omega)
    refine K.KW.region ?_
    refine K.RW.qs [.pointer (some ⟨r_1, 0, none⟩)] (by kernel_rfl) ?_
    refine K.RW.q rfl rfl (K.QR.ld1 (v := .slice (some ⟨b_18, of_19, none⟩) qa.length cq) rfl rfl (by kernel_rfl) ((hS.blk 3 rfl hg_3).cell rfl)) ?_
    refine K.RW.q rfl rfl (K.QR.ix (of_19 + 0 * 1) 1 rfl rfl rfl Try.underlying39 (by kernel_rfl) (by omega) (by first | (simp; done) | omega | (simp; omega))) ?_
    refine K.RW.q rfl rfl (K.QR.ld1 (v := .int .u32 (qa.getD 0 0)) rfl rfl (by kernel_rfl) ((x1 _ (hS.pick [4])).ld 0 (by omega) 0 _ rfl)) ?_
    refine K.RW.qs [.int .u32 (qa.getD 0 0)] (by kernel_rfl) ?_
    refine K.RW.nil ?_
    refine K.thn_normal ?_
    refine K.KW.seq ?_
    -- 14 :75
    refine K.KW.region ?_
    refine K.RW.qs [.pointer (some ⟨r_1, 0, none⟩)] (by kernel_rfl) ?_
    refine K.RW.q rfl rfl (K.QR.ld1 (v := .slice (some ⟨b_18, of_19, none⟩) qa.length cq) rfl rfl (by kernel_rfl) ((hS.blk 3 rfl hg_3).cell rfl)) ?_
    refine K.RW.q rfl rfl (K.QR.slLo (size := 1) 1 rfl rfl rfl Try.underlying39 (by kernel_rfl) (by omega) rfl) ?_
    refine K.RW.qs [.pointer (some ⟨r_1, 0, none⟩)] (by kernel_rfl) ?_
    refine K.RW.l rfl (K.OW.gst 3 [.slice (K.shift (some ⟨b_18, of_19, none⟩) cq 1 1) (qa.length - 1) (cq - 1)] [.slice (K.shift (some ⟨b_18, of_19, none⟩) cq 1 1) (qa.length - 1) (cq - 1), .slice s sa.length cs, .slice m ma.length cm] hS hg_3 ?_)
    clear hS; intro w g_20 hg_21 hS
    replace hS : K.Sat w0 [g_11, g_8, g_5, g_20, g1, g2, g3, fr] w := hS
    refine K.RW.nil ?_
    refine K.thn_normal ?_
    refine K.KW.seq ?_
    -- 15 :76
    refine K.KW.region ?_
    refine K.RW.q rfl rfl (K.QR.ldN [.slice (K.shift (some ⟨b_18, of_19, none⟩) cq 1 1) (qa.length - 1) (cq - 1), .slice s sa.length cs, .slice m ma.length cm] rfl rfl (by kernel_rfl) (by kernel_rfl) (K.cells (K.cl ((hS.blk 3 rfl hg_21).cell rfl) (K.cl ((hS.blk 3 rfl hg_21).cell rfl) (K.cl ((hS.blk 3 rfl hg_21).cell rfl) K.cl0))))) ?_
    refine K.RW.qs [.int .u32 (qa.getD 0 0)] (by kernel_rfl) ?_
    refine K.RW.q rfl rfl (K.QR.bd [(0, .int .i64 1), (1, .int .u32 (qa.getD 0 0))] [.int .i64 1, .int .u32 (qa.getD 0 0)] rfl rfl (by kernel_rfl)) ?_
    refine K.RW.l rfl (K.OW.gst 1 [.slice (K.shift (some ⟨b_18, of_19, none⟩) cq 1 1) (qa.length - 1) (cq - 1), .slice s sa.length cs, .slice m ma.length cm] [.slice (K.shift (some ⟨b_18, of_19, none⟩) cq 1 1) (qa.length - 1) (cq - 1), .slice s sa.length cs, .slice m ma.length cm] hS hg_9 ?_)
    clear hS; intro w g_22 hg_23 hS
    replace hS : K.Sat w0 [g_11, g_22, g_5, g_20, g1, g2, g3, fr] w := hS
    refine K.RW.l rfl (K.OW.gst 0 [.int .i64 1, .int .u32 (qa.getD 0 0)] [.int .i64 1, .int .u32 (qa.getD 0 0)] hS hg_12 ?_)
    clear hS; intro w g_24 hg_25 hS
    replace hS : K.Sat w0 [g_24, g_22, g_5, g_20, g1, g2, g3, fr] w := hS
    refine K.RW.nil ?_
    refine K.thn_normal ?_
    refine K.KW.ret ?_
    refine K.thn_ret ?_
    have hA : applyT ⟨qa, sa, ma⟩ 2 key val = (⟨(qa.drop 1), sa, ma⟩, 1, qa.getD 0 0) := ap2 (by omega)
    rw [hA]
    refine ⟨.inr rfl, rfl, (.tuple #[.agg #[.slice (K.shift (some ⟨b_18, of_19, none⟩) cq 1 1) (qa.length - 1) (cq - 1), .slice s sa.length cs, .slice m ma.length cm], .agg #[.int .i64 1, .int .u32 (qa.getD 0 0)]]), K.resAt (rs := [.cell 4 42, .cell 5 52]) [.agg #[.slice (K.shift (some ⟨b_18, of_19, none⟩) cq 1 1) (qa.length - 1) (cq - 1), .slice s sa.length cs, .slice m ma.length cm], .agg #[.int .i64 1, .int .u32 (qa.getD 0 0)]] rfl ⟨⟨_, rfl, K.lvN [.slice (K.shift (some ⟨b_18, of_19, none⟩) cq 1 1) (qa.length - 1) (cq - 1), .slice s sa.length cs, .slice m ma.length cm] (by kernel_rfl) (by kernel_rfl) (K.cells (K.cl ((hS.blk 1 rfl hg_23).cell rfl) (K.cl ((hS.blk 1 rfl hg_23).cell rfl) (K.cl ((hS.blk 1 rfl hg_23).cell rfl) K.cl0))))⟩, ⟨_, rfl, K.lvN [.int .i64 1, .int .u32 (qa.getD 0 0)] (by kernel_rfl) (by kernel_rfl) (K.cells (K.cl ((hS.blk 0 rfl hg_25).cell rfl) (K.cl ((hS.blk 0 rfl hg_25).cell rfl) K.cl0)))⟩, trivial⟩, [g1, g2, g3], ?_, hS.pick [4, 5, 6, 7]⟩
    exact ⟨(K.shift (some ⟨b_18, of_19, none⟩) cq 1 1), cq - 1, s, cs, m, cm, g1, g2, g3, by rw [show qa.length - 1 = ((qa.drop 1)).length from by first | omega | (simp; done)], rfl, rdU_tail x1 (by omega) hc, x2, x3, (by show (qa.drop 1).length ≤ _; rw [List.length_drop]; omega)⟩

set_option maxHeartbeats 1000000 in
set_option maxRecDepth 100000 in
theorem rapply3_ok (w0 : World) (q s m : Option Addr) (cq cs cm : Nat) (qa sa : List Int) (ma : List PairM) (key val : Int) (h1 : qa.length ≤ 1000000) (h2 : sa.length ≤ 1000000) (h3 : ma.length ≤ 1000000) (hr1 : rising sa) (hr2 : rising (keysP ma)) (hc : qa.length ≤ cq) (g1 : K.Cs) (x1 : ∀ w, K.Sat w0 [g1] w → K.RowE w q qa.length 1 (fun i => cU32 (qa.getD i 0))) (g2 : K.Cs) (x2 : ∀ w, K.Sat w0 [g2] w → K.RowE w s sa.length 1 (fun i => cU32 (sa.getD i 0))) (g3 : K.Cs) (x3 : ∀ w, K.Sat w0 [g3] w → K.RowE w m ma.length 2 (fun i => cPair (ma.getD i p0))) :
    K.GC Try.prog w0 33 #[.agg #[.slice q qa.length cq, .slice s sa.length cs, .slice m ma.length cm], .agg #[.int .i64 3, .int .u32 key, .int .u32 val]] [g1, g2, g3] (ApR w0 (applyT ⟨qa, sa, ma⟩ 3 key val)) := by
  refine K.GC.mk (n := 192) Try.func33 rfl rfl [.agg #[.slice q qa.length cq, .slice s sa.length cs, .slice m ma.length cm], .agg #[.int .i64 3, .int .u32 key, .int .u32 val]] rfl rfl ?_
  intro fr w hS
  replace hS : K.Sat w0 [g1, g2, g3, fr] w := hS
  refine K.KW.seq ?_
  -- 0 :60
  refine K.KW.region ?_
  refine K.RW.l rfl (K.OW.gnew 42 [.slice q qa.length cq, .slice s sa.length cs, .slice m ma.length cm] hS ?_)
  clear hS; intro w r_1 g_2 hg_3 hS
  refine K.RW.l rfl (K.OW.gnew 45 [.int .i64 3, .int .u32 key, .int .u32 val] hS ?_)
  clear hS; intro w r_4 g_5 hg_6 hS
  refine K.RW.l rfl (K.OW.gnew 42 [.slice none 0 0, .slice none 0 0, .slice none 0 0] hS ?_)
  clear hS; intro w r_7 g_8 hg_9 hS
  refine K.RW.l rfl (K.OW.gnew 52 [.int .i64 0, .int .u32 0] hS ?_)
  clear hS; intro w r_10 g_11 hg_12 hS
  refine K.RW.nil ?_
  refine K.thn_normal ?_
  refine K.KW.seq ?_
  refine K.KW.seq ?_
  -- 1 :61
  refine K.KW.region ?_
  refine K.RW.qs [.pointer (some ⟨r_4, 0, none⟩)] (by kernel_rfl) ?_
  refine K.RW.q rfl rfl (K.QR.ld1 (v := .int .i64 3) rfl rfl (by kernel_rfl) ((hS.blk 2 rfl hg_6).cell rfl)) ?_
  refine K.RW.qs [.bool false] (by kernel_rfl) ?_
  refine K.RW.nil ?_
  refine K.thn_normal ?_
  refine K.KW.ifF rfl ?_
  refine K.KW.skip ?_
  refine K.thn_normal ?_
  refine K.KW.seq ?_
  refine K.KW.seq ?_
  -- 10 :70
  refine K.KW.region ?_
  refine K.RW.qs [.pointer (some ⟨r_4, 0, none⟩)] (by kernel_rfl) ?_
  refine K.RW.q rfl rfl (K.QR.ld1 (v := .int .i64 3) rfl rfl (by kernel_rfl) ((hS.blk 2 rfl hg_6).cell rfl)) ?_
  refine K.RW.qs [.bool false, .bool false] (by kernel_rfl) ?_
  refine K.RW.skip rfl (by kernel_rfl) ?_
  refine K.RW.skip rfl (by kernel_rfl) ?_
  refine K.RW.skip rfl (by kernel_rfl) ?_
  refine K.RW.skip rfl (by kernel_rfl) ?_
  refine K.RW.qs [.bool false] (by kernel_rfl) ?_
  refine K.RW.nil ?_
  refine K.thn_normal ?_
  refine K.KW.ifF rfl ?_
  refine K.KW.skip ?_
  refine K.thn_normal ?_
  refine K.KW.seq ?_
  refine K.KW.seq ?_
  -- 12 :73
  refine K.KW.region ?_
  refine K.RW.qs [.pointer (some ⟨r_4, 0, none⟩)] (by kernel_rfl) ?_
  refine K.RW.q rfl rfl (K.QR.ld1 (v := .int .i64 3) rfl rfl (by kernel_rfl) ((hS.blk 2 rfl hg_6).cell rfl)) ?_
  refine K.RW.qs [.bool false] (by kernel_rfl) ?_
  refine K.RW.nil ?_
  refine K.thn_normal ?_
  refine K.KW.ifF rfl ?_
  refine K.KW.skip ?_
  refine K.thn_normal ?_
  refine K.KW.seq ?_
  -- 16 :78
  refine K.KW.region ?_
  refine K.RW.qs [.bool false] (by kernel_rfl) ?_
  refine K.RW.nil ?_
  refine K.thn_normal ?_
  refine K.KW.seq ?_
  refine K.KW.seq ?_
  -- 17 :79
  refine K.KW.region ?_
  refine K.RW.qs [.int .i64 0] (by kernel_rfl) ?_
  refine K.RW.nil ?_
  refine K.thn_normal ?_
  refine K.KW.block ?_
  refine K.KW.loop (fun m_ F_ w_ => ∃ (j : Nat) (f : Bool), m_ = sa.length - j ∧ K.Sl F_ [(0, .agg #[.slice q qa.length cq, .slice s sa.length cs, .slice m ma.length cm]), (1, .agg #[.int .i64 3, .int .u32 key, .int .u32 val]), (2, .pointer (some ⟨r_1, 0, none⟩)), (3, .pointer (some ⟨r_4, 0, none⟩)), (4, .pointer (some ⟨r_7, 0, none⟩)), (5, .pointer (some ⟨r_10, 0, none⟩)), (9, .bool f), (10, .int .i64 ((j : Nat) : Int)), (192, undef)] ∧ j ≤ sa.length ∧ anyT idI key (sa.take j) = f ∧ K.Sat w0 [g_11, g_8, g_5, g_2, g1, g2, g3, fr] w_) ((fun (j : Nat) (f : Bool) => sa.length - j) 0 false) ?_ ?_
  · -- begins
    exact ⟨0, false, rfl, ⟨by rfl, by rfl, by rfl, by rfl, by rfl, by rfl, by rfl, by rfl, by rfl, trivial⟩, (by omega), (rfl), hS.pick [0, 1, 2, 3, 4, 5, 6, 7]⟩
  · -- a round
    clear hS
    intro m_13 F_14 w hI
    obtain ⟨j, f, rfl, sl_15, p_16, hf, hS⟩ := hI
    rw [← K.Sl.puts sl_15]; clear sl_15
    cases f
    ·
      refine K.KW.seq ?_
      refine K.KW.seq ?_
      -- 18 :79
      refine K.KW.region ?_
      refine K.RW.qs [.pointer (some ⟨r_4, 0, none⟩)] (by kernel_rfl) ?_
      refine K.RW.q rfl rfl (K.QR.ld1 (v := .int .i64 3) rfl rfl (by kernel_rfl) ((hS.blk 2 rfl hg_6).cell rfl)) ?_
      refine K.RW.qs [.bool true, .bool true, .pointer (some ⟨r_4, 0, none⟩)] (by kernel_rfl) ?_
      refine K.RW.q rfl (by kernel_rfl) (K.QR.ld1 (v := .int .i64 3) rfl rfl (by kernel_rfl) ((hS.blk 2 rfl hg_6).cell rfl)) ?_
      refine K.RW.qs [.bool true, .bool true, .bool true, .int .i64 ((j : Nat) : Int), .pointer (some ⟨r_1, 1, none⟩)] (by kernel_rfl) ?_
      refine K.RW.q rfl (by kernel_rfl) (K.QR.ld1 (v := .slice s sa.length cs) rfl rfl (by kernel_rfl) ((hS.blk 3 rfl hg_3).cell rfl)) ?_
      refine K.RW.q rfl (by kernel_rfl) (K.QR.len (P := Try.prog) rfl rfl Try.underlying39) ?_
      by_cases h_17 : (((j : Nat) : Int) : Int) < (((sa.length : Nat) : Int) : Int)
      ·  -- yes
        refine K.RW.q rfl (by kernel_rfl) (K.QR.nice (v := .bool (decide ((((j : Nat) : Int) : Int) < (((sa.length : Nat) : Int) : Int)))) (by kernel_rfl) (congrArg Value.bool (decide_eq_true h_17))) ?_
        refine K.RW.qs [.bool true] (by kernel_rfl) ?_
        refine K.RW.nil ?_
        refine K.thn_normal ?_
        refine K.KW.ifT rfl ?_
        refine K.KW.skip ?_
        refine K.thn_normal ?_
        refine K.KW.seq ?_
        refine K.KW.block ?_
        -- 20 :80
        obtain ⟨b_18, of_19, rfl, _⟩ := (x2 _ (hS.pick [5])).at_ (by omega)
        refine K.KW.gdrawn [3, 5] hS (by kernel_rfl) ?_
        clear hS; intro w hS
        refine K.DW.l 0 rfl (by kernel_rfl) rfl (K.OW.q rfl (K.QR.k (v := .bool false) (by kernel_rfl)) ?_)
        refine ⟨.inl (hS.pick [3, 5]), ?_⟩
        refine K.DW.l 1 rfl (by kernel_rfl) rfl (K.OW.q rfl (K.QR.k (v := .bool false) (by kernel_rfl)) ?_)
        refine ⟨.inl (hS.pick [3, 5]), ?_⟩
        refine K.DW.q 2 (by kernel_rfl) rfl rfl (by kernel_rfl) (by kernel_rfl) (fun w hS => K.QR.k (v := .pointer (some ⟨r_1, 1, none⟩)) (by kernel_rfl)) (hS.pick [3, 5]) ?_
        refine K.DW.q 3 (by kernel_rfl) rfl rfl (by kernel_rfl) (by kernel_rfl) (fun w hS => K.QR.ld1 (v := .slice (some ⟨b_18, of_19, none⟩) sa.length cs) rfl rfl (by kernel_rfl) ((hS.blk 0 rfl hg_3).cell rfl)) (hS.pick [3, 5]) ?_
        refine K.DW.q 4 (by kernel_rfl) rfl rfl (by kernel_rfl) (by kernel_rfl) (fun w hS => K.QR.k (v := .int .i64 ((j : Nat) : Int)) (by kernel_rfl)) (hS.pick [3, 5]) ?_
        refine K.DW.q 5 (by kernel_rfl) rfl rfl (by kernel_rfl) (by kernel_rfl) (fun w hS => K.QR.ix (of_19 + j * 1) 1 rfl rfl rfl Try.underlying39 (by kernel_rfl) (by omega) (by first | (simp; done) | omega | (simp; omega))) (hS.pick [3, 5]) ?_
        refine K.DW.q 6 (by kernel_rfl) rfl rfl (by kernel_rfl) (by kernel_rfl) (fun w hS => K.QR.ld1 (v := .int .u32 (sa.getD j 0)) rfl rfl (by kernel_rfl) ((x2 _ (hS.pick [1])).ld j (by omega) 0 _ rfl)) (hS.pick [3, 5]) ?_
        refine K.DW.l 7 rfl (by kernel_rfl) (by kernel_rfl) (K.OW.q rfl (K.QR.k (v := .pointer (some ⟨r_4, 1, none⟩)) (by kernel_rfl)) ?_)
        refine ⟨.inl (hS.pick [3, 5]), ?_⟩
        refine K.DW.l 8 rfl (by kernel_rfl) (by kernel_rfl) (K.OW.q rfl (K.QR.ld1 (v := .int .u32 key) rfl rfl (by kernel_rfl) ((hS.blk 2 rfl hg_6).cell rfl)) ?_)
        refine ⟨.inl (hS.pick [3, 5]), ?_⟩
        by_cases h_20 : (sa.getD j 0 : Int) = (key : Int)
        ·  -- yes
          refine K.DW.l 9 rfl (by kernel_rfl) (by kernel_rfl) (K.OW.q rfl (K.QR.nice (v := .bool ((sa.getD j 0 : Int) == (key : Int))) (by kernel_rfl) (congrArg Value.bool (beq_iff_eq.2 h_20))) ?_)
          refine ⟨.inl (hS.pick [3, 5]), ?_⟩
          refine K.DW.l 10 rfl (by kernel_rfl) rfl (K.OW.q rfl (K.QR.k (v := .bool true) (by kernel_rfl)) ?_)
          refine ⟨.inl (hS.pick [3, 5]), ?_⟩
          refine K.DW.l 11 rfl (by kernel_rfl) rfl (K.OW.q rfl (K.QR.k (v := .bool true) (by kernel_rfl)) ?_)
          refine ⟨.inl (hS.pick [3, 5]), ?_⟩
          refine K.DW.done (by kernel_rfl) ?_
          refine K.blk_normal ?_
          refine K.thn_normal ?_
          -- 19 :79
          refine K.KW.region ?_
          refine K.RW.qs [.int .i64 ((j : Nat) : Int)] (by kernel_rfl) ?_
          refine K.RW.q rfl rfl (K.QR.n64 ((((j : Nat) : Int) : Int) + (1 : Int)) ((j + 1 : Nat) : Int) (by kernel_rfl) (by omega)) ?_
          refine K.RW.qs [.int .i64 ((j + 1 : Nat) : Int)] (by kernel_rfl) ?_
          refine K.RW.nil ?_
          refine K.thn_normal ?_
          refine ⟨_, ?_, j + 1, true, rfl, ⟨by rfl, by rfl, by rfl, by rfl, by rfl, by rfl, by rfl, by rfl, by rfl, trivial⟩, (by omega), ((anyT_next (d := 0) hf (by omega)).trans (any_y (by assumption))), hS.pick [0, 1, 2, 3, 4, 5, 6, 7]⟩
          omega
        ·  -- no
          refine K.DW.l 9 rfl (by kernel_rfl) (by kernel_rfl) (K.OW.q rfl (K.QR.nice (v := .bool ((sa.getD j 0 : Int) == (key : Int))) (by kernel_rfl) (congrArg Value.bool (beq_eq_false_iff_ne.2 h_20))) ?_)
          refine ⟨.inl (hS.pick [3, 5]), ?_⟩
          refine K.DW.l 10 rfl (by kernel_rfl) rfl (K.OW.q rfl (K.QR.k (v := .bool false) (by kernel_rfl)) ?_)
          refine ⟨.inl (hS.pick [3, 5]), ?_⟩
          refine K.DW.l 11 rfl (by kernel_rfl) rfl (K.OW.q rfl (K.QR.k (v := .bool false) (by kernel_rfl)) ?_)
          refine ⟨.inl (hS.pick [3, 5]), ?_⟩
          refine K.DW.done (by kernel_rfl) ?_
          refine K.blk_normal ?_
          refine K.thn_normal ?_
          -- 19 :79
          refine K.KW.region ?_
          refine K.RW.qs [.int .i64 ((j : Nat) : Int)] (by kernel_rfl) ?_
          refine K.RW.q rfl rfl (K.QR.n64 ((((j : Nat) : Int) : Int) + (1 : Int)) ((j + 1 : Nat) : Int) (by kernel_rfl) (by omega)) ?_
          refine K.RW.qs [.int .i64 ((j + 1 : Nat) : Int)] (by kernel_rfl) ?_
          refine K.RW.nil ?_
          refine K.thn_normal ?_
          refine ⟨_, ?_, j + 1, false, rfl, ⟨by rfl, by rfl, by rfl, by rfl, by rfl, by rfl, by rfl, by rfl, by rfl, trivial⟩, (by omega), ((anyT_next (d := 0) hf (by omega)).trans (any_n (by assumption))), hS.pick [0, 1, 2, 3, 4, 5, 6, 7]⟩
          omega
      ·  -- no
        refine K.RW.q rfl (by kernel_rfl) (K.QR.nice (v := .bool (decide ((((j : Nat) : Int) : Int) < (((sa.length : Nat) : Int) : Int)))) (by kernel_rfl) (congrArg Value.bool (decide_eq_false h_17))) ?_
        refine K.RW.qs [.bool false] (by kernel_rfl) ?_
        refine K.RW.nil ?_
        refine K.thn_normal ?_
        refine K.KW.ifF rfl ?_
        refine K.KW.exit ?_
        refine K.thn_exit ?_
        refine K.thn_exit ?_
        refine K.blk_hit ?_
        refine K.thn_normal ?_
        refine K.KW.seq ?_
        -- 21 :82
        refine K.KW.region ?_
        refine K.RW.qs [.int .u32 0] (by kernel_rfl) ?_
        refine K.RW.nil ?_
        refine K.thn_normal ?_
        refine K.KW.seq ?_
        refine K.KW.seq ?_
        -- 22 :83
        refine K.KW.region ?_
        refine K.RW.qs [.int .i64 0] (by kernel_rfl) ?_
        refine K.RW.nil ?_
        refine K.thn_normal ?_
        refine K.KW.block ?_
        refine K.KW.unr 0 ?_
        refine K.Unr.zero ?_
        refine K.KW.seq ?_
        refine K.KW.seq ?_
        -- 23 :83
        refine K.KW.region ?_
        refine K.RW.qs [.pointer (some ⟨r_4, 0, none⟩)] (by kernel_rfl) ?_
        refine K.RW.q rfl rfl (K.QR.ld1 (v := .int .i64 3) rfl rfl (by kernel_rfl) ((hS.blk 2 rfl hg_6).cell rfl)) ?_
        refine K.RW.qs [.bool false, .bool false] (by kernel_rfl) ?_
        refine K.RW.skip rfl (by kernel_rfl) ?_
        refine K.RW.skip rfl (by kernel_rfl) ?_
        refine K.RW.skip rfl (by kernel_rfl) ?_
        refine K.RW.qs [.bool false, .bool false] (by kernel_rfl) ?_
        refine K.RW.skip rfl (by kernel_rfl) ?_
        refine K.RW.skip rfl (by kernel_rfl) ?_
        refine K.RW.skip rfl (by kernel_rfl) ?_
        refine K.RW.skip rfl (by kernel_rfl) ?_
        refine K.RW.skip rfl (by kernel_rfl) ?_
        refine K.RW.qs [.bool false] (by kernel_rfl) ?_
        refine K.RW.nil ?_
        refine K.thn_normal ?_
        refine K.KW.ifF rfl ?_
        refine K.KW.exit ?_
        refine K.thn_exit ?_
        refine K.thn_exit ?_
        refine K.blk_hit ?_
        refine K.thn_normal ?_
        refine K.KW.seq ?_
        refine K.KW.seq ?_
        -- 28 :89
        refine K.KW.region ?_
        refine K.RW.qs [.pointer (some ⟨r_4, 0, none⟩)] (by kernel_rfl) ?_
        refine K.RW.q rfl rfl (K.QR.ld1 (v := .int .i64 3) rfl rfl (by kernel_rfl) ((hS.blk 2 rfl hg_6).cell rfl)) ?_
        refine K.RW.qs [.bool false, .bool false, .pointer (some ⟨r_4, 0, none⟩)] (by kernel_rfl) ?_
        refine K.RW.q rfl (by kernel_rfl) (K.QR.ld1 (v := .int .i64 3) rfl rfl (by kernel_rfl) ((hS.blk 2 rfl hg_6).cell rfl)) ?_
        refine K.RW.qs [.bool false, .bool false] (by kernel_rfl) ?_
        refine K.RW.nil ?_
        refine K.thn_normal ?_
        refine K.KW.ifF rfl ?_
        refine K.KW.skip ?_
        refine K.thn_normal ?_
        refine K.KW.seq ?_
        refine K.KW.seq ?_
        -- 30 :92
        refine K.KW.region ?_
        refine K.RW.qs [.bool false, .bool false] (by kernel_rfl) ?_
        refine K.RW.skip rfl (by kernel_rfl) ?_
        refine K.RW.skip rfl (by kernel_rfl) ?_
        refine K.RW.skip rfl (by kernel_rfl) ?_
        refine K.RW.qs [.bool false, .bool false] (by kernel_rfl) ?_
        refine K.RW.skip rfl (by kernel_rfl) ?_
        refine K.RW.skip rfl (by kernel_rfl) ?_
        refine K.RW.skip rfl (by kernel_rfl) ?_
        refine K.RW.qs [.bool false] (by kernel_rfl) ?_
        refine K.RW.nil ?_
        refine K.thn_normal ?_
        refine K.KW.ifF rfl ?_
        refine K.KW.skip ?_
        refine K.thn_normal ?_
        refine K.KW.seq ?_
        refine K.KW.seq ?_
        -- 32 :95
        refine K.KW.region ?_
        refine K.RW.qs [.bool false, .bool true, .bool true, .pointer (some ⟨r_4, 0, none⟩)] (by kernel_rfl) ?_
        refine K.RW.q rfl (by kernel_rfl) (K.QR.ld1 (v := .int .i64 3) rfl rfl (by kernel_rfl) ((hS.blk 2 rfl hg_6).cell rfl)) ?_
        refine K.RW.qs [.bool false, .bool false, .bool false] (by kernel_rfl) ?_
        refine K.RW.skip rfl (by kernel_rfl) ?_
        refine K.RW.skip rfl (by kernel_rfl) ?_
        refine K.RW.skip rfl (by kernel_rfl) ?_
        refine K.RW.qs [.bool false] (by kernel_rfl) ?_
        refine K.RW.nil ?_
        refine K.thn_normal ?_
        refine K.KW.ifF rfl ?_
        refine K.KW.skip ?_
        refine K.thn_normal ?_
        refine K.KW.seq ?_
        refine K.KW.seq ?_
        -- 34 :98
        refine K.KW.region ?_
        refine K.RW.qs [.pointer (some ⟨r_4, 0, none⟩)] (by kernel_rfl) ?_
        refine K.RW.q rfl rfl (K.QR.ld1 (v := .int .i64 3) rfl rfl (by kernel_rfl) ((hS.blk 2 rfl hg_6).cell rfl)) ?_
        refine K.RW.qs [.bool true] (by kernel_rfl) ?_
        refine K.RW.nil ?_
        refine K.thn_normal ?_
        refine K.KW.ifT rfl ?_
        refine K.KW.seq ?_
        -- 35 :99
        refine K.KW.region ?_
        refine K.RW.qs [.pointer (some ⟨r_1, 1, none⟩)] (by kernel_rfl) ?_
        refine K.RW.q rfl rfl (K.QR.ld1 (v := .slice s sa.length cs) rfl rfl (by kernel_rfl) ((hS.blk 3 rfl hg_3).cell rfl)) ?_
        refine K.RW.qs [.pointer (some ⟨r_4, 1, none⟩)] (by kernel_rfl) ?_
        refine K.RW.q rfl rfl (K.QR.ld1 (v := .int .u32 key) rfl rfl (by kernel_rfl) ((hS.blk 2 rfl hg_6).cell rfl)) ?_
        refine K.RW.qs [.pointer (some ⟨r_4, 0, none⟩)] (by kernel_rfl) ?_
        refine K.RW.q rfl rfl (K.QR.ld1 (v := .int .i64 3) rfl rfl (by kernel_rfl) ((hS.blk 2 rfl hg_6).cell rfl)) ?_
        refine K.RW.qs [.bool true] (by kernel_rfl) ?_
        refine K.RW.l rfl (K.OW.gcall hS [5] [0, 1, 2, 3, 4, 6, 7] [.slice s sa.length cs, .int .u32 key, .bool true] (keysT_ok _ _ _ sa key (by omega) _ x2) ?_)
        clear hS; rintro _ _ w ⟨r_21, c_22, l_23, rfl, rfl, o_24⟩ hS
        replace hS : K.Sat w0 [g2, l_23, g_11, g_8, g_5, g_2, g1, g3, fr] w := hS
        refine K.RW.qs [.pointer (some ⟨r_1, 1, none⟩)] (by kernel_rfl) ?_
        refine K.RW.l rfl (K.OW.gst 5 [.slice r_21 ((keysR idI key key true sa).length) c_22] [.slice q qa.length cq, .slice r_21 ((keysR idI key key true sa).length) c_22, .slice m ma.length cm] hS hg_3 ?_)
        clear hS; intro w g_25 hg_26 hS
        replace hS : K.Sat w0 [g2, l_23, g_11, g_8, g_5, g_25, g1, g3, fr] w := hS
        refine K.RW.nil ?_
        refine K.thn_normal ?_
        refine K.KW.seq ?_
        -- 36 :100
        refine K.KW.region ?_
        refine K.RW.q rfl rfl (K.QR.ldN [.slice q qa.length cq, .slice r_21 ((keysR idI key key true sa).length) c_22, .slice m ma.length cm] rfl rfl (by kernel_rfl) (by kernel_rfl) (K.cells (K.cl ((hS.blk 5 rfl hg_26).cell rfl) (K.cl ((hS.blk 5 rfl hg_26).cell rfl) (K.cl ((hS.blk 5 rfl hg_26).cell rfl) K.cl0))))) ?_
        refine K.RW.q rfl rfl (K.QR.bd [(0, .int .i64 1)] [.int .i64 1, .int .u32 0] rfl rfl (by kernel_rfl)) ?_
        refine K.RW.l rfl (K.OW.gst 3 [.slice q qa.length cq, .slice r_21 ((keysR idI key key true sa).length) c_22, .slice m ma.length cm] [.slice q qa.length cq, .slice r_21 ((keysR idI key key true sa).length) c_22, .slice m ma.length cm] hS hg_9 ?_)
        clear hS; intro w g_27 hg_28 hS
        replace hS : K.Sat w0 [g2, l_23, g_11, g_27, g_5, g_25, g1, g3, fr] w := hS
        refine K.RW.l rfl (K.OW.gst 2 [.int .i64 1, .int .u32 0] [.int .i64 1, .int .u32 0] hS hg_12 ?_)
        clear hS; intro w g_29 hg_30 hS
        replace hS : K.Sat w0 [g2, l_23, g_29, g_27, g_5, g_25, g1, g3, fr] w := hS
        refine K.RW.nil ?_
        refine K.thn_normal ?_
        refine K.KW.ret ?_
        refine K.thn_ret ?_
        have hany : anyT idI key sa = false := by have h := hf; rw [List.take_of_length_le (by omega)] at h; exact h
        have hA : applyT ⟨qa, sa, ma⟩ 3 key val = (⟨qa, (keysR idI key key true sa), ma⟩, 1, 0) := by rw [apS hr1 (by decide), hany]; rfl
        rw [hA]
        refine ⟨.inr rfl, rfl, (.tuple #[.agg #[.slice q qa.length cq, .slice r_21 ((keysR idI key key true sa).length) c_22, .slice m ma.length cm], .agg #[.int .i64 1, .int .u32 0]]), K.resAt (rs := [.cell 4 42, .cell 5 52]) [.agg #[.slice q qa.length cq, .slice r_21 ((keysR idI key key true sa).length) c_22, .slice m ma.length cm], .agg #[.int .i64 1, .int .u32 0]] rfl ⟨⟨_, rfl, K.lvN [.slice q qa.length cq, .slice r_21 ((keysR idI key key true sa).length) c_22, .slice m ma.length cm] (by kernel_rfl) (by kernel_rfl) (K.cells (K.cl ((hS.blk 3 rfl hg_28).cell rfl) (K.cl ((hS.blk 3 rfl hg_28).cell rfl) (K.cl ((hS.blk 3 rfl hg_28).cell rfl) K.cl0))))⟩, ⟨_, rfl, K.lvN [.int .i64 1, .int .u32 0] (by kernel_rfl) (by kernel_rfl) (K.cells (K.cl ((hS.blk 2 rfl hg_30).cell rfl) (K.cl ((hS.blk 2 rfl hg_30).cell rfl) K.cl0)))⟩, trivial⟩, [g1, l_23, g3], ?_, hS.pick [6, 1, 7, 8]⟩
        exact ⟨q, cq, r_21, c_22, m, cm, g1, l_23, g3, rfl, rfl, x1, rdU_own o_24 rfl, x3, hc⟩
    ·
      refine K.KW.seq ?_
      refine K.KW.seq ?_
      -- 18 :79
      refine K.KW.region ?_
      refine K.RW.qs [.pointer (some ⟨r_4, 0, none⟩)] (by kernel_rfl) ?_
      refine K.RW.q rfl rfl (K.QR.ld1 (v := .int .i64 3) rfl rfl (by kernel_rfl) ((hS.blk 2 rfl hg_6).cell rfl)) ?_
      refine K.RW.qs [.bool true, .bool true, .pointer (some ⟨r_4, 0, none⟩)] (by kernel_rfl) ?_
      refine K.RW.q rfl (by kernel_rfl) (K.QR.ld1 (v := .int .i64 3) rfl rfl (by kernel_rfl) ((hS.blk 2 rfl hg_6).cell rfl)) ?_
      refine K.RW.qs [.bool true, .bool true, .bool true, .int .i64 ((j : Nat) : Int), .pointer (some ⟨r_1, 1, none⟩)] (by kernel_rfl) ?_
      refine K.RW.q rfl (by kernel_rfl) (K.QR.ld1 (v := .slice s sa.length cs) rfl rfl (by kernel_rfl) ((hS.blk 3 rfl hg_3).cell rfl)) ?_
      refine K.RW.q rfl (by kernel_rfl) (K.QR.len (P := Try.prog) rfl rfl Try.underlying39) ?_
      by_cases h_31 : (((j : Nat) : Int) : Int) < (((sa.length : Nat) : Int) : Int)
      ·  -- yes
        refine K.RW.q rfl (by kernel_rfl) (K.QR.nice (v := .bool (decide ((((j : Nat) : Int) : Int) < (((sa.length : Nat) : Int) : Int)))) (by kernel_rfl) (congrArg Value.bool (decide_eq_true h_31))) ?_
        refine K.RW.qs [.bool true] (by kernel_rfl) ?_
        refine K.RW.nil ?_
        refine K.thn_normal ?_
        refine K.KW.ifT rfl ?_
        refine K.KW.skip ?_
        refine K.thn_normal ?_
        refine K.KW.seq ?_
        refine K.KW.block ?_
        -- 20 :80
        obtain ⟨b_32, of_33, rfl, _⟩ := (x2 _ (hS.pick [5])).at_ (by omega)
        refine K.KW.gdrawn [] hS (by kernel_rfl) ?_
        clear hS; intro w hS
        refine K.DW.l 0 rfl (by kernel_rfl) rfl (K.OW.q rfl (K.QR.k (v := .bool true) (by kernel_rfl)) ?_)
        refine ⟨.inl (hS.pick []), ?_⟩
        refine K.DW.l 1 rfl (by kernel_rfl) rfl (K.OW.q rfl (K.QR.k (v := .bool true) (by kernel_rfl)) ?_)
        refine ⟨.inl (hS.pick []), ?_⟩
        refine K.DW.skip 2 (by kernel_rfl) rfl rfl (by kernel_rfl) (by kernel_rfl) (hS.pick []) ?_
        refine K.DW.skip 3 (by kernel_rfl) rfl rfl (by kernel_rfl) (by kernel_rfl) (hS.pick []) ?_
        refine K.DW.skip 4 (by kernel_rfl) rfl rfl (by kernel_rfl) (by kernel_rfl) (hS.pick []) ?_
        refine K.DW.skip 5 (by kernel_rfl) rfl rfl (by kernel_rfl) (by kernel_rfl) (hS.pick []) ?_
        refine K.DW.skip 6 (by kernel_rfl) rfl rfl (by kernel_rfl) (by kernel_rfl) (hS.pick []) ?_
        refine K.DW.skip 7 (by kernel_rfl) rfl rfl (by kernel_rfl) (by kernel_rfl) (hS.pick []) ?_
        refine K.DW.skip 8 (by kernel_rfl) rfl rfl (by kernel_rfl) (by kernel_rfl) (hS.pick []) ?_
        refine K.DW.skip 9 (by kernel_rfl) rfl rfl (by kernel_rfl) (by kernel_rfl) (hS.pick []) ?_
        refine K.DW.l 10 rfl (by kernel_rfl) rfl (K.OW.q rfl (K.QR.k (v := .bool true) (by kernel_rfl)) ?_)
        refine ⟨.inl (hS.pick []), ?_⟩
        refine K.DW.l 11 rfl (by kernel_rfl) rfl (K.OW.q rfl (K.QR.k (v := .bool true) (by kernel_rfl)) ?_)
        refine ⟨.inl (hS.pick []), ?_⟩
        refine K.DW.done (by kernel_rfl) ?_
        refine K.blk_normal ?_
        refine K.thn_normal ?_
        -- 19 :79
        refine K.KW.region ?_
        refine K.RW.qs [.int .i64 ((j : Nat) : Int)] (by kernel_rfl) ?_
        refine K.RW.q rfl rfl (K.QR.n64 ((((j : Nat) : Int) : Int) + (1 : Int)) ((j + 1 : Nat) : Int) (by kernel_rfl) (by omega)) ?_
        refine K.RW.qs [.int .i64 ((j + 1 : Nat) : Int)] (by kernel_rfl) ?_
        refine K.RW.nil ?_
        refine K.thn_normal ?_
        refine ⟨_, ?_, j + 1, true, rfl, ⟨by rfl, by rfl, by rfl, by rfl, by rfl, by rfl, by rfl, by rfl, by rfl, trivial⟩, (by omega), ((anyT_next (d := 0) hf (by omega)).trans any_t), hS.pick [0, 1, 2, 3, 4, 5, 6, 7]⟩
        omega
      ·  -- no
        refine K.RW.q rfl (by kernel_rfl) (K.QR.nice (v := .bool (decide ((((j : Nat) : Int) : Int) < (((sa.length : Nat) : Int) : Int)))) (by kernel_rfl) (congrArg Value.bool (decide_eq_false h_31))) ?_
        refine K.RW.qs [.bool false] (by kernel_rfl) ?_
        refine K.RW.nil ?_
        refine K.thn_normal ?_
        refine K.KW.ifF rfl ?_
        refine K.KW.exit ?_
        refine K.thn_exit ?_
        refine K.thn_exit ?_
        refine K.blk_hit ?_
        refine K.thn_normal ?_
        refine K.KW.seq ?_
        -- 21 :82
        refine K.KW.region ?_
        refine K.RW.qs [.int .u32 0] (by kernel_rfl) ?_
        refine K.RW.nil ?_
        refine K.thn_normal ?_
        refine K.KW.seq ?_
        refine K.KW.seq ?_
        -- 22 :83
        refine K.KW.region ?_
        refine K.RW.qs [.int .i64 0] (by kernel_rfl) ?_
        refine K.RW.nil ?_
        refine K.thn_normal ?_
        refine K.KW.block ?_
        refine K.KW.unr 0 ?_
        refine K.Unr.zero ?_
        refine K.KW.seq ?_
        refine K.KW.seq ?_
        -- 23 :83
        refine K.KW.region ?_
        refine K.RW.qs [.pointer (some ⟨r_4, 0, none⟩)] (by kernel_rfl) ?_
        refine K.RW.q rfl rfl (K.QR.ld1 (v := .int .i64 3) rfl rfl (by kernel_rfl) ((hS.blk 2 rfl hg_6).cell rfl)) ?_
        refine K.RW.qs [.bool false, .bool false] (by kernel_rfl) ?_
        refine K.RW.skip rfl (by kernel_rfl) ?_
        refine K.RW.skip rfl (by kernel_rfl) ?_
        refine K.RW.skip rfl (by kernel_rfl) ?_
        refine K.RW.qs [.bool false, .bool false] (by kernel_rfl) ?_
        refine K.RW.skip rfl (by kernel_rfl) ?_
        refine K.RW.skip rfl (by kernel_rfl) ?_
        refine K.RW.skip rfl (by kernel_rfl) ?_
        refine K.RW.skip rfl (by kernel_rfl) ?_
        refine K.RW.skip rfl (by kernel_rfl) ?_
        refine K.RW.qs [.bool false] (by kernel_rfl) ?_
        refine K.RW.nil ?_
        refine K.thn_normal ?_
        refine K.KW.ifF rfl ?_
        refine K.KW.exit ?_
        refine K.thn_exit ?_
        refine K.thn_exit ?_
        refine K.blk_hit ?_
        refine K.thn_normal ?_
        refine K.KW.seq ?_
        refine K.KW.seq ?_
        -- 28 :89
        refine K.KW.region ?_
        refine K.RW.qs [.pointer (some ⟨r_4, 0, none⟩)] (by kernel_rfl) ?_
        refine K.RW.q rfl rfl (K.QR.ld1 (v := .int .i64 3) rfl rfl (by kernel_rfl) ((hS.blk 2 rfl hg_6).cell rfl)) ?_
        refine K.RW.qs [.bool false, .bool false, .pointer (some ⟨r_4, 0, none⟩)] (by kernel_rfl) ?_
        refine K.RW.q rfl (by kernel_rfl) (K.QR.ld1 (v := .int .i64 3) rfl rfl (by kernel_rfl) ((hS.blk 2 rfl hg_6).cell rfl)) ?_
        refine K.RW.qs [.bool false, .bool false] (by kernel_rfl) ?_
        refine K.RW.nil ?_
        refine K.thn_normal ?_
        refine K.KW.ifF rfl ?_
        refine K.KW.skip ?_
        refine K.thn_normal ?_
        refine K.KW.seq ?_
        refine K.KW.seq ?_
        -- 30 :92
        refine K.KW.region ?_
        refine K.RW.qs [.bool true, .bool true, .pointer (some ⟨r_4, 0, none⟩)] (by kernel_rfl) ?_
        refine K.RW.q rfl (by kernel_rfl) (K.QR.ld1 (v := .int .i64 3) rfl rfl (by kernel_rfl) ((hS.blk 2 rfl hg_6).cell rfl)) ?_
        refine K.RW.qs [.bool true, .bool true, .bool true, .pointer (some ⟨r_4, 0, none⟩)] (by kernel_rfl) ?_
        refine K.RW.q rfl (by kernel_rfl) (K.QR.ld1 (v := .int .i64 3) rfl rfl (by kernel_rfl) ((hS.blk 2 rfl hg_6).cell rfl)) ?_
        refine K.RW.qs [.bool true, .bool true] (by kernel_rfl) ?_
        refine K.RW.nil ?_
        refine K.thn_normal ?_
        refine K.KW.ifT rfl ?_
        refine K.KW.seq ?_
        -- 31 :93
        refine K.KW.region ?_
        refine K.RW.q rfl rfl (K.QR.ldN [.slice q qa.length cq, .slice s sa.length cs, .slice m ma.length cm] rfl rfl (by kernel_rfl) (by kernel_rfl) (K.cells (K.cl ((hS.blk 3 rfl hg_3).cell rfl) (K.cl ((hS.blk 3 rfl hg_3).cell rfl) (K.cl ((hS.blk 3 rfl hg_3).cell rfl) K.cl0))))) ?_
        refine K.RW.qs [.int .u32 0] (by kernel_rfl) ?_
        refine K.RW.q rfl rfl (K.QR.bd [(0, .int .i64 3), (1, .int .u32 0)] [.int .i64 3, .int .u32 0] rfl rfl (by kernel_rfl)) ?_
        refine K.RW.l rfl (K.OW.gst 1 [.slice q qa.length cq, .slice s sa.length cs, .slice m ma.length cm] [.slice q qa.length cq, .slice s sa.length cs, .slice m ma.length cm] hS hg_9 ?_)
        clear hS; intro w g_34 hg_35 hS
        replace hS : K.Sat w0 [g_11, g_34, g_5, g_2, g1, g2, g3, fr] w := hS
        refine K.RW.l rfl (K.OW.gst 0 [.int .i64 3, .int .u32 0] [.int .i64 3, .int .u32 0] hS hg_12 ?_)
        clear hS; intro w g_36 hg_37 hS
        replace hS : K.Sat w0 [g_36, g_34, g_5, g_2, g1, g2, g3, fr] w := hS
        refine K.RW.nil ?_
        refine K.thn_normal ?_
        refine K.KW.ret ?_
        refine K.thn_ret ?_
        have hany : anyT idI key sa = true := by have h := hf; rw [List.take_of_length_le (by omega)] at h; exact h
        have hA : applyT ⟨qa, sa, ma⟩ 3 key val = (⟨qa, sa, ma⟩, 3, 0) := by rw [apS hr1 (by decide), hany]; rfl
        rw [hA]
        refine ⟨.inr rfl, rfl, (.tuple #[.agg #[.slice q qa.length cq, .slice s sa.length cs, .slice m ma.length cm], .agg #[.int .i64 3, .int .u32 0]]), K.resAt (rs := [.cell 4 42, .cell 5 52]) [.agg #[.slice q qa.length cq, .slice s sa.length cs, .slice m ma.length cm], .agg #[.int .i64 3, .int .u32 0]] rfl ⟨⟨_, rfl, K.lvN [.slice q qa.length cq, .slice s sa.length cs, .slice m ma.length cm] (by kernel_rfl) (by kernel_rfl) (K.cells (K.cl ((hS.blk 1 rfl hg_35).cell rfl) (K.cl ((hS.blk 1 rfl hg_35).cell rfl) (K.cl ((hS.blk 1 rfl hg_35).cell rfl) K.cl0))))⟩, ⟨_, rfl, K.lvN [.int .i64 3, .int .u32 0] (by kernel_rfl) (by kernel_rfl) (K.cells (K.cl ((hS.blk 0 rfl hg_37).cell rfl) (K.cl ((hS.blk 0 rfl hg_37).cell rfl) K.cl0)))⟩, trivial⟩, [g1, g2, g3], ?_, hS.pick [4, 5, 6, 7]⟩
        exact ⟨q, cq, s, cs, m, cm, g1, g2, g3, rfl, rfl, x1, x2, x3, hc⟩

set_option maxHeartbeats 1000000 in
set_option maxRecDepth 100000 in
theorem rapply4_ok (w0 : World) (q s m : Option Addr) (cq cs cm : Nat) (qa sa : List Int) (ma : List PairM) (key val : Int) (h1 : qa.length ≤ 1000000) (h2 : sa.length ≤ 1000000) (h3 : ma.length ≤ 1000000) (hr1 : rising sa) (hr2 : rising (keysP ma)) (hc : qa.length ≤ cq) (g1 : K.Cs) (x1 : ∀ w, K.Sat w0 [g1] w → K.RowE w q qa.length 1 (fun i => cU32 (qa.getD i 0))) (g2 : K.Cs) (x2 : ∀ w, K.Sat w0 [g2] w → K.RowE w s sa.length 1 (fun i => cU32 (sa.getD i 0))) (g3 : K.Cs) (x3 : ∀ w, K.Sat w0 [g3] w → K.RowE w m ma.length 2 (fun i => cPair (ma.getD i p0))) :
    K.GC Try.prog w0 33 #[.agg #[.slice q qa.length cq, .slice s sa.length cs, .slice m ma.length cm], .agg #[.int .i64 4, .int .u32 key, .int .u32 val]] [g1, g2, g3] (ApR w0 (applyT ⟨qa, sa, ma⟩ 4 key val)) := by
  refine K.GC.mk (n := 192) Try.func33 rfl rfl [.agg #[.slice q qa.length cq, .slice s sa.length cs, .slice m ma.length cm], .agg #[.int .i64 4, .int .u32 key, .int .u32 val]] rfl rfl ?_
  intro fr w hS
  replace hS : K.Sat w0 [g1, g2, g3, fr] w := hS
  refine K.KW.seq ?_
  -- 0 :60
  refine K.KW.region ?_
  refine K.RW.l rfl (K.OW.gnew 42 [.slice q qa.length cq, .slice s sa.length cs, .slice m ma.length cm] hS ?_)
  clear hS; intro w r_1 g_2 hg_3 hS
  refine K.RW.l rfl (K.OW.gnew 45 [.int .i64 4, .int .u32 key, .int .u32 val] hS ?_)
  clear hS; intro w r_4 g_5 hg_6 hS
  refine K.RW.l rfl (K.OW.gnew 42 [.slice none 0 0, .slice none 0 0, .slice none 0 0] hS ?_)
  clear hS; intro w r_7 g_8 hg_9 hS
  refine K.RW.l rfl (K.OW.gnew 52 [.int .i64 0, .int .u32 0] hS ?_)
  clear hS; intro w r_10 g_11 hg_12 hS
  refine K.RW.nil ?_
  refine K.thn_normal ?_
  refine K.KW.seq ?_
  refine K.KW.seq ?_
  -- 1 :61
  refine K.KW.region ?_
  refine K.RW.qs [.pointer (some ⟨r_4, 0, none⟩)] (by kernel_rfl) ?_
  refine K.RW.q rfl rfl (K.QR.ld1 (v := .int .i64 4) rfl rfl (by kernel_rfl) ((hS.blk 2 rfl hg_6).cell rfl)) ?_
  refine K.RW.qs [.bool false] (by kernel_rfl) ?_
  refine K.RW.nil ?_
  refine K.thn_normal ?_
  refine K.KW.ifF rfl ?_
  refine K.KW.skip ?_
  refine K.thn_normal ?_
  refine K.KW.seq ?_
  refine K.KW.seq ?_
  -- 10 :70
  refine K.KW.region ?_
  refine K.RW.qs [.pointer (some ⟨r_4, 0, none⟩)] (by kernel_rfl) ?_
  refine K.RW.q rfl rfl (K.QR.ld1 (v := .int .i64 4) rfl rfl (by kernel_rfl) ((hS.blk 2 rfl hg_6).cell rfl)) ?_
  refine K.RW.qs [.bool false, .bool false] (by kernel_rfl) ?_
  refine K.RW.skip rfl (by kernel_rfl) ?_
  refine K.RW.skip rfl (by kernel_rfl) ?_
  refine K.RW.skip rfl (by kernel_rfl) ?_
  refine K.RW.skip rfl (by kernel_rfl) ?_
  refine K.RW.qs [.bool false] (by kernel_rfl) ?_
  refine K.RW.nil ?_
  refine K.thn_normal ?_
  refine K.KW.ifF rfl ?_
  refine K.KW.skip ?_
  refine K.thn_normal ?_
  refine K.KW.seq ?_
  refine K.KW.seq ?_
  -- 12 :73
  refine K.KW.region ?_
  refine K.RW.qs [.pointer (some ⟨r_4, 0, none⟩)] (by kernel_rfl) ?_
  refine K.RW.q rfl rfl (K.QR.ld1 (v := .int .i64 4) rfl rfl (by kernel_rfl) ((hS.blk 2 rfl hg_6).cell rfl)) ?_
  refine K.RW.qs [.bool false] (by kernel_rfl) ?_
  refine K.RW.nil ?_
  refine K.thn_normal ?_
  refine K.KW.ifF rfl ?_
  refine K.KW.skip ?_
  refine K.thn_normal ?_
  refine K.KW.seq ?_
  -- 16 :78
  refine K.KW.region ?_
  refine K.RW.qs [.bool false] (by kernel_rfl) ?_
  refine K.RW.nil ?_
  refine K.thn_normal ?_
  refine K.KW.seq ?_
  refine K.KW.seq ?_
  -- 17 :79
  refine K.KW.region ?_
  refine K.RW.qs [.int .i64 0] (by kernel_rfl) ?_
  refine K.RW.nil ?_
  refine K.thn_normal ?_
  refine K.KW.block ?_
  refine K.KW.loop (fun m_ F_ w_ => ∃ (j : Nat) (f : Bool), m_ = sa.length - j ∧ K.Sl F_ [(0, .agg #[.slice q qa.length cq, .slice s sa.length cs, .slice m ma.length cm]), (1, .agg #[.int .i64 4, .int .u32 key, .int .u32 val]), (2, .pointer (some ⟨r_1, 0, none⟩)), (3, .pointer (some ⟨r_4, 0, none⟩)), (4, .pointer (some ⟨r_7, 0, none⟩)), (5, .pointer (some ⟨r_10, 0, none⟩)), (9, .bool f), (10, .int .i64 ((j : Nat) : Int)), (192, undef)] ∧ j ≤ sa.length ∧ anyT idI key (sa.take j) = f ∧ K.Sat w0 [g_11, g_8, g_5, g_2, g1, g2, g3, fr] w_) ((fun (j : Nat) (f : Bool) => sa.length - j) 0 false) ?_ ?_
  · -- begins
    exact ⟨0, false, rfl, ⟨by rfl, by rfl, by rfl, by rfl, by rfl, by rfl, by rfl, by rfl, by rfl, trivial⟩, (by omega), (rfl), hS.pick [0, 1, 2, 3, 4, 5, 6, 7]⟩
  · -- a round
    clear hS
    intro m_13 F_14 w hI
    obtain ⟨j, f, rfl, sl_15, p_16, hf, hS⟩ := hI
    rw [← K.Sl.puts sl_15]; clear sl_15
    cases f
    ·
      refine K.KW.seq ?_
      refine K.KW.seq ?_
      -- 18 :79
      refine K.KW.region ?_
      refine K.RW.qs [.pointer (some ⟨r_4, 0, none⟩)] (by kernel_rfl) ?_
      refine K.RW.q rfl rfl (K.QR.ld1 (v := .int .i64 4) rfl rfl (by kernel_rfl) ((hS.blk 2 rfl hg_6).cell rfl)) ?_
      refine K.RW.qs [.bool true, .bool true, .pointer (some ⟨r_4, 0, none⟩)] (by kernel_rfl) ?_
      refine K.RW.q rfl (by kernel_rfl) (K.QR.ld1 (v := .int .i64 4) rfl rfl (by kernel_rfl) ((hS.blk 2 rfl hg_6).cell rfl)) ?_
      refine K.RW.qs [.bool true, .bool true, .bool true, .int .i64 ((j : Nat) : Int), .pointer (some ⟨r_1, 1, none⟩)] (by kernel_rfl) ?_
      refine K.RW.q rfl (by kernel_rfl) (K.QR.ld1 (v := .slice s sa.length cs) rfl rfl (by kernel_rfl) ((hS.blk 3 rfl hg_3).cell rfl)) ?_
      refine K.RW.q rfl (by kernel_rfl) (K.QR.len (P := Try.prog) rfl rfl Try.underlying39) ?_
      by_cases h_17 : (((j : Nat) : Int) : Int) < (((sa.length : Nat) : Int) : Int)
      ·  -- yes
        refine K.RW.q rfl (by kernel_rfl) (K.QR.nice (v := .bool (decide ((((j : Nat) : Int) : Int) < (((sa.length : Nat) : Int) : Int)))) (by kernel_rfl) (congrArg Value.bool (decide_eq_true h_17))) ?_
        refine K.RW.qs [.bool true] (by kernel_rfl) ?_
        refine K.RW.nil ?_
        refine K.thn_normal ?_
        refine K.KW.ifT rfl ?_
        refine K.KW.skip ?_
        refine K.thn_normal ?_
        refine K.KW.seq ?_
        refine K.KW.block ?_
        -- 20 :80
        obtain ⟨b_18, of_19, rfl, _⟩ := (x2 _ (hS.pick [5])).at_ (by omega)
        refine K.KW.gdrawn [3, 5] hS (by kernel_rfl) ?_
        clear hS; intro w hS
        refine K.DW.l 0 rfl (by kernel_rfl) rfl (K.OW.q rfl (K.QR.k (v := .bool false) (by kernel_rfl)) ?_)
        refine ⟨.inl (hS.pick [3, 5]), ?_⟩
        refine K.DW.l 1 rfl (by kernel_rfl) rfl (K.OW.q rfl (K.QR.k (v := .bool false) (by kernel_rfl)) ?_)
        refine ⟨.inl (hS.pick [3, 5]), ?_⟩
        refine K.DW.q 2 (by kernel_rfl) rfl rfl (by kernel_rfl) (by kernel_rfl) (fun w hS => K.QR.k (v := .pointer (some ⟨r_1, 1, none⟩)) (by kernel_rfl)) (hS.pick [3, 5]) ?_
        refine K.DW.q 3 (by kernel_rfl) rfl rfl (by kernel_rfl) (by kernel_rfl) (fun w hS => K.QR.ld1 (v := .slice (some ⟨b_18, of_19, none⟩) sa.length cs) rfl rfl (by kernel_rfl) ((hS.blk 0 rfl hg_3).cell rfl)) (hS.pick [3, 5]) ?_
        refine K.DW.q 4 (by kernel_rfl) rfl rfl (by kernel_rfl) (by kernel_rfl) (fun w hS => K.QR.k (v := .int .i64 ((j : Nat) : Int)) (by kernel_rfl)) (hS.pick [3, 5]) ?_
        refine K.DW.q 5 (by kernel_rfl) rfl rfl (by kernel_rfl) (by kernel_rfl) (fun w hS => K.QR.ix (of_19 + j * 1) 1 rfl rfl rfl Try.underlying39 (by kernel_rfl) (by omega) (by first | (simp; done) | omega | (simp; omega))) (hS.pick [3, 5]) ?_
        refine K.DW.q 6 (by kernel_rfl) rfl rfl (by kernel_rfl) (by kernel_rfl) (fun w hS => K.QR.ld1 (v := .int .u32 (sa.getD j 0)) rfl rfl (by kernel_rfl) ((x2 _ (hS.pick [1])).ld j (by omega) 0 _ rfl)) (hS.pick [3, 5]) ?_
        refine K.DW.l 7 rfl (by kernel_rfl) (by kernel_rfl) (K.OW.q rfl (K.QR.k (v := .pointer (some ⟨r_4, 1, none⟩)) (by kernel_rfl)) ?_)
        refine ⟨.inl (hS.pick [3, 5]), ?_⟩
        refine K.DW.l 8 rfl (by kernel_rfl) (by kernel_rfl) (K.OW.q rfl (K.QR.ld1 (v := .int .u32 key) rfl rfl (by kernel_rfl) ((hS.blk 2 rfl hg_6).cell rfl)) ?_)
        refine ⟨.inl (hS.pick [3, 5]), ?_⟩
        by_cases h_20 : (sa.getD j 0 : Int) = (key : Int)
        ·  -- yes
          refine K.DW.l 9 rfl (by kernel_rfl) (by kernel_rfl) (K.OW.q rfl (K.QR.nice (v := .bool ((sa.getD j 0 : Int) == (key : Int))) (by kernel_rfl) (congrArg Value.bool (beq_iff_eq.2 h_20))) ?_)
          refine ⟨.inl (hS.pick [3, 5]), ?_⟩
          refine K.DW.l 10 rfl (by kernel_rfl) rfl (K.OW.q rfl (K.QR.k (v := .bool true) (by kernel_rfl)) ?_)
          refine ⟨.inl (hS.pick [3, 5]), ?_⟩
          refine K.DW.l 11 rfl (by kernel_rfl) rfl (K.OW.q rfl (K.QR.k (v := .bool true) (by kernel_rfl)) ?_)
          refine ⟨.inl (hS.pick [3, 5]), ?_⟩
          refine K.DW.done (by kernel_rfl) ?_
          refine K.blk_normal ?_
          refine K.thn_normal ?_
          -- 19 :79
          refine K.KW.region ?_
          refine K.RW.qs [.int .i64 ((j : Nat) : Int)] (by kernel_rfl) ?_
          refine K.RW.q rfl rfl (K.QR.n64 ((((j : Nat) : Int) : Int) + (1 : Int)) ((j + 1 : Nat) : Int) (by kernel_rfl) (by omega)) ?_
          refine K.RW.qs [.int .i64 ((j + 1 : Nat) : Int)] (by kernel_rfl) ?_
          refine K.RW.nil ?_
          refine K.thn_normal ?_
          refine ⟨_, ?_, j + 1, true, rfl, ⟨by rfl, by rfl, by rfl, by rfl, by rfl, by rfl, by rfl, by rfl, by rfl, trivial⟩, (by omega), ((anyT_next (d := 0) hf (by omega)).trans (any_y (by assumption))), hS.pick [0, 1, 2, 3, 4, 5, 6, 7]⟩
          omega
        ·  -- no
          refine K.DW.l 9 rfl (by kernel_rfl) (by kernel_rfl) (K.OW.q rfl (K.QR.nice (v := .bool ((sa.getD j 0 : Int) == (key : Int))) (by kernel_rfl) (congrArg Value.bool (beq_eq_false_iff_ne.2 h_20))) ?_)
          refine ⟨.inl (hS.pick [3, 5]), ?_⟩
          refine K.DW.l 10 rfl (by kernel_rfl) rfl (K.OW.q rfl (K.QR.k (v := .bool false) (by kernel_rfl)) ?_)
          refine ⟨.inl (hS.pick [3, 5]), ?_⟩
          refine K.DW.l 11 rfl (by kernel_rfl) rfl (K.OW.q rfl (K.QR.k (v := .bool false) (by kernel_rfl)) ?_)
          refine ⟨.inl (hS.pick [3, 5]), ?_⟩
          refine K.DW.done (by kernel_rfl) ?_
          refine K.blk_normal ?_
          refine K.thn_normal ?_
          -- 19 :79
          refine K.KW.region ?_
          refine K.RW.qs [.int .i64 ((j : Nat) : Int)] (by kernel_rfl) ?_
          refine K.RW.q rfl rfl (K.QR.n64 ((((j : Nat) : Int) : Int) + (1 : Int)) ((j + 1 : Nat) : Int) (by kernel_rfl) (by omega)) ?_
          refine K.RW.qs [.int .i64 ((j + 1 : Nat) : Int)] (by kernel_rfl) ?_
          refine K.RW.nil ?_
          refine K.thn_normal ?_
          refine ⟨_, ?_, j + 1, false, rfl, ⟨by rfl, by rfl, by rfl, by rfl, by rfl, by rfl, by rfl, by rfl, by rfl, trivial⟩, (by omega), ((anyT_next (d := 0) hf (by omega)).trans (any_n (by assumption))), hS.pick [0, 1, 2, 3, 4, 5, 6, 7]⟩
          omega
      ·  -- no
        refine K.RW.q rfl (by kernel_rfl) (K.QR.nice (v := .bool (decide ((((j : Nat) : Int) : Int) < (((sa.length : Nat) : Int) : Int)))) (by kernel_rfl) (congrArg Value.bool (decide_eq_false h_17))) ?_
        refine K.RW.qs [.bool false] (by kernel_rfl) ?_
        refine K.RW.nil ?_
        refine K.thn_normal ?_
        refine K.KW.ifF rfl ?_
        refine K.KW.exit ?_
        refine K.thn_exit ?_
        refine K.thn_exit ?_
        refine K.blk_hit ?_
        refine K.thn_normal ?_
        refine K.KW.seq ?_
        -- 21 :82
        refine K.KW.region ?_
        refine K.RW.qs [.int .u32 0] (by kernel_rfl) ?_
        refine K.RW.nil ?_
        refine K.thn_normal ?_
        refine K.KW.seq ?_
        refine K.KW.seq ?_
        -- 22 :83
        refine K.KW.region ?_
        refine K.RW.qs [.int .i64 0] (by kernel_rfl) ?_
        refine K.RW.nil ?_
        refine K.thn_normal ?_
        refine K.KW.block ?_
        refine K.KW.unr 0 ?_
        refine K.Unr.zero ?_
        refine K.KW.seq ?_
        refine K.KW.seq ?_
        -- 23 :83
        refine K.KW.region ?_
        refine K.RW.qs [.pointer (some ⟨r_4, 0, none⟩)] (by kernel_rfl) ?_
        refine K.RW.q rfl rfl (K.QR.ld1 (v := .int .i64 4) rfl rfl (by kernel_rfl) ((hS.blk 2 rfl hg_6).cell rfl)) ?_
        refine K.RW.qs [.bool false, .bool false] (by kernel_rfl) ?_
        refine K.RW.skip rfl (by kernel_rfl) ?_
        refine K.RW.skip rfl (by kernel_rfl) ?_
        refine K.RW.skip rfl (by kernel_rfl) ?_
        refine K.RW.qs [.bool false, .bool false] (by kernel_rfl) ?_
        refine K.RW.skip rfl (by kernel_rfl) ?_
        refine K.RW.skip rfl (by kernel_rfl) ?_
        refine K.RW.skip rfl (by kernel_rfl) ?_
        refine K.RW.skip rfl (by kernel_rfl) ?_
        refine K.RW.skip rfl (by kernel_rfl) ?_
        refine K.RW.qs [.bool false] (by kernel_rfl) ?_
        refine K.RW.nil ?_
        refine K.thn_normal ?_
        refine K.KW.ifF rfl ?_
        refine K.KW.exit ?_
        refine K.thn_exit ?_
        refine K.thn_exit ?_
        refine K.blk_hit ?_
        refine K.thn_normal ?_
        refine K.KW.seq ?_
        refine K.KW.seq ?_
        -- 28 :89
        refine K.KW.region ?_
        refine K.RW.qs [.pointer (some ⟨r_4, 0, none⟩)] (by kernel_rfl) ?_
        refine K.RW.q rfl rfl (K.QR.ld1 (v := .int .i64 4) rfl rfl (by kernel_rfl) ((hS.blk 2 rfl hg_6).cell rfl)) ?_
        refine K.RW.qs [.bool false, .bool false, .pointer (some ⟨r_4, 0, none⟩)] (by kernel_rfl) ?_
        refine K.RW.q rfl (by kernel_rfl) (K.QR.ld1 (v := .int .i64 4) rfl rfl (by kernel_rfl) ((hS.blk 2 rfl hg_6).cell rfl)) ?_
        refine K.RW.qs [.bool false, .bool false] (by kernel_rfl) ?_
        refine K.RW.nil ?_
        refine K.thn_normal ?_
        refine K.KW.ifF rfl ?_
        refine K.KW.skip ?_
        refine K.thn_normal ?_
        refine K.KW.seq ?_
        refine K.KW.seq ?_
        -- 30 :92
        refine K.KW.region ?_
        refine K.RW.qs [.bool false, .bool false] (by kernel_rfl) ?_
        refine K.RW.skip rfl (by kernel_rfl) ?_
        refine K.RW.skip rfl (by kernel_rfl) ?_
        refine K.RW.skip rfl (by kernel_rfl) ?_
        refine K.RW.qs [.bool false, .bool false] (by kernel_rfl) ?_
        refine K.RW.skip rfl (by kernel_rfl) ?_
        refine K.RW.skip rfl (by kernel_rfl) ?_
        refine K.RW.skip rfl (by kernel_rfl) ?_
        refine K.RW.qs [.bool false] (by kernel_rfl) ?_
        refine K.RW.nil ?_
        refine K.thn_normal ?_
        refine K.KW.ifF rfl ?_
        refine K.KW.skip ?_
        refine K.thn_normal ?_
        refine K.KW.seq ?_
        refine K.KW.seq ?_
        -- 32 :95
        refine K.KW.region ?_
        refine K.RW.qs [.bool false, .bool true, .bool true, .pointer (some ⟨r_4, 0, none⟩)] (by kernel_rfl) ?_
        refine K.RW.q rfl (by kernel_rfl) (K.QR.ld1 (v := .int .i64 4) rfl rfl (by kernel_rfl) ((hS.blk 2 rfl hg_6).cell rfl)) ?_
        refine K.RW.qs [.bool true, .bool true, .bool true, .pointer (some ⟨r_4, 0, none⟩)] (by kernel_rfl) ?_
        refine K.RW.q rfl (by kernel_rfl) (K.QR.ld1 (v := .int .i64 4) rfl rfl (by kernel_rfl) ((hS.blk 2 rfl hg_6).cell rfl)) ?_
        refine K.RW.qs [.bool true, .bool true] (by kernel_rfl) ?_
        refine K.RW.nil ?_
        refine K.thn_normal ?_
        refine K.KW.ifT rfl ?_
        refine K.KW.seq ?_
        -- 33 :96
        refine K.KW.region ?_
        refine K.RW.q rfl rfl (K.QR.ldN [.slice q qa.length cq, .slice s sa.length cs, .slice m ma.length cm] rfl rfl (by kernel_rfl) (by kernel_rfl) (K.cells (K.cl ((hS.blk 3 rfl hg_3).cell rfl) (K.cl ((hS.blk 3 rfl hg_3).cell rfl) (K.cl ((hS.blk 3 rfl hg_3).cell rfl) K.cl0))))) ?_
        refine K.RW.q rfl rfl (K.QR.bd [(0, .int .i64 4)] [.int .i64 4, .int .u32 0] rfl rfl (by kernel_rfl)) ?_
        refine K.RW.l rfl (K.OW.gst 1 [.slice q qa.length cq, .slice s sa.length cs, .slice m ma.length cm] [.slice q qa.length cq, .slice s sa.length cs, .slice m ma.length cm] hS hg_9 ?_)
        clear hS; intro w g_21 hg_22 hS
        replace hS : K.Sat w0 [g_11, g_21, g_5, g_2, g1, g2, g3, fr] w := hS
        refine K.RW.l rfl (K.OW.gst 0 [.int .i64 4, .int .u32 0] [.int .i64 4, .int .u32 0] hS hg_12 ?_)
        clear hS; intro w g_23 hg_24 hS
        replace hS : K.Sat w0 [g_23, g_21, g_5, g_2, g1, g2, g3, fr] w := hS
        refine K.RW.nil ?_
        refine K.thn_normal ?_
        refine K.KW.ret ?_
        refine K.thn_ret ?_
        have hany : anyT idI key sa = false := by have h := hf; rw [List.take_of_length_le (by omega)] at h; exact h
        have hA : applyT ⟨qa, sa, ma⟩ 4 key val = (⟨qa, sa, ma⟩, 4, 0) := by rw [apS hr1 (by decide), hany]; rfl
        rw [hA]
        refine ⟨.inr rfl, rfl, (.tuple #[.agg #[.slice q qa.length cq, .slice s sa.length cs, .slice m ma.length cm], .agg #[.int .i64 4, .int .u32 0]]), K.resAt (rs := [.cell 4 42, .cell 5 52]) [.agg #[.slice q qa.length cq, .slice s sa.length cs, .slice m ma.length cm], .agg #[.int .i64 4, .int .u32 0]] rfl ⟨⟨_, rfl, K.lvN [.slice q qa.length cq, .slice s sa.length cs, .slice m ma.length cm] (by kernel_rfl) (by kernel_rfl) (K.cells (K.cl ((hS.blk 1 rfl hg_22).cell rfl) (K.cl ((hS.blk 1 rfl hg_22).cell rfl) (K.cl ((hS.blk 1 rfl hg_22).cell rfl) K.cl0))))⟩, ⟨_, rfl, K.lvN [.int .i64 4, .int .u32 0] (by kernel_rfl) (by kernel_rfl) (K.cells (K.cl ((hS.blk 0 rfl hg_24).cell rfl) (K.cl ((hS.blk 0 rfl hg_24).cell rfl) K.cl0)))⟩, trivial⟩, [g1, g2, g3], ?_, hS.pick [4, 5, 6, 7]⟩
        exact ⟨q, cq, s, cs, m, cm, g1, g2, g3, rfl, rfl, x1, x2, x3, hc⟩
    ·
      refine K.KW.seq ?_
      refine K.KW.seq ?_
      -- 18 :79
      refine K.KW.region ?_
      refine K.RW.qs [.pointer (some ⟨r_4, 0, none⟩)] (by kernel_rfl) ?_
      refine K.RW.q rfl rfl (K.QR.ld1 (v := .int .i64 4) rfl rfl (by kernel_rfl) ((hS.blk 2 rfl hg_6).cell rfl)) ?_
      refine K.RW.qs [.bool true, .bool true, .pointer (some ⟨r_4, 0, none⟩)] (by kernel_rfl) ?_
      refine K.RW.q rfl (by kernel_rfl) (K.QR.ld1 (v := .int .i64 4) rfl rfl (by kernel_rfl) ((hS.blk 2 rfl hg_6).cell rfl)) ?_
      refine K.RW.qs [.bool true, .bool true, .bool true, .int .i64 ((j : Nat) : Int), .pointer (some ⟨r_1, 1, none⟩)] (by kernel_rfl) ?_
      refine K.RW.q rfl (by kernel_rfl) (K.QR.ld1 (v := .slice s sa.length cs) rfl rfl (by kernel_rfl) ((hS.blk 3 rfl hg_3).cell rfl)) ?_
      refine K.RW.q rfl (by kernel_rfl) (K.QR.len (P := Try.prog) rfl rfl Try.underlying39) ?_
      by_cases h_25 : (((j : Nat) : Int) : Int) < (((sa.length : Nat) : Int) : Int)
      ·  -- yes
        refine K.RW.q rfl (by kernel_rfl) (K.QR.nice (v := .bool (decide ((((j : Nat) : Int) : Int) < (((sa.length : Nat) : Int) : Int)))) (by kernel_rfl) (congrArg Value.bool (decide_eq_true h_25))) ?_
        refine K.RW.qs [.bool true] (by kernel_rfl) ?_
        refine K.RW.nil ?_
        refine K.thn_normal ?_
        refine K.KW.ifT rfl ?_
        refine K.KW.skip ?_
        refine K.thn_normal ?_
        refine K.KW.seq ?_
        refine K.KW.block ?_
        -- 20 :80
        obtain ⟨b_26, of_27, rfl, _⟩ := (x2 _ (hS.pick [5])).at_ (by omega)
        refine K.KW.gdrawn [] hS (by kernel_rfl) ?_
        clear hS; intro w hS
        refine K.DW.l 0 rfl (by kernel_rfl) rfl (K.OW.q rfl (K.QR.k (v := .bool true) (by kernel_rfl)) ?_)
        refine ⟨.inl (hS.pick []), ?_⟩
        refine K.DW.l 1 rfl (by kernel_rfl) rfl (K.OW.q rfl (K.QR.k (v := .bool true) (by kernel_rfl)) ?_)
        refine ⟨.inl (hS.pick []), ?_⟩
        refine K.DW.skip 2 (by kernel_rfl) rfl rfl (by kernel_rfl) (by kernel_rfl) (hS.pick []) ?_
        refine K.DW.skip 3 (by kernel_rfl) rfl rfl (by kernel_rfl) (by kernel_rfl) (hS.pick []) ?_
        refine K.DW.skip 4 (by kernel_rfl) rfl rfl (by kernel_rfl) (by kernel_rfl) (hS.pick []) ?_
        refine K.DW.skip 5 (by kernel_rfl) rfl rfl (by kernel_rfl) (by kernel_rfl) (hS.pick []) ?_
        refine K.DW.skip 6 (by kernel_rfl) rfl rfl (by kernel_rfl) (by kernel_rfl) (hS.pick []) ?_
        refine K.DW.skip 7 (by kernel_rfl) rfl rfl (by kernel_rfl) (by kernel_rfl) (hS.pick []) ?_
        refine K.DW.skip 8 (by kernel_rfl) rfl rfl (by kernel_rfl) (by kernel_rfl) (hS.pick []) ?_
        refine K.DW.skip 9 (by kernel_rfl) rfl rfl (by kernel_rfl) (by kernel_rfl) (hS.pick []) ?_
        refine K.DW.l 10 rfl (by kernel_rfl) rfl (K.OW.q rfl (K.QR.k (v := .bool true) (by kernel_rfl)) ?_)
        refine ⟨.inl (hS.pick []), ?_⟩
        refine K.DW.l 11 rfl (by kernel_rfl) rfl (K.OW.q rfl (K.QR.k (v := .bool true) (by kernel_rfl)) ?_)
        refine ⟨.inl (hS.pick []), ?_⟩
        refine K.DW.done (by kernel_rfl) ?_
        refine K.blk_normal ?_
        refine K.thn_normal ?_
        -- 19 :79
        refine K.KW.region ?_
        refine K.RW.qs [.int .i64 ((j : Nat) : Int)] (by kernel_rfl) ?_
        refine K.RW.q rfl rfl (K.QR.n64 ((((j : Nat) : Int) : Int) + (1 : Int)) ((j + 1 : Nat) : Int) (by kernel_rfl) (by omega)) ?_
        refine K.RW.qs [.int .i64 ((j + 1 : Nat) : Int)] (by kernel_rfl) ?_
        refine K.RW.nil ?_
        refine K.thn_normal ?_
        refine ⟨_, ?_, j + 1, true, rfl, ⟨by rfl, by rfl, by rfl, by rfl, by rfl, by rfl, by rfl, by rfl, by rfl, trivial⟩, (by omega), ((anyT_next (d := 0) hf (by omega)).trans any_t), hS.pick [0, 1, 2, 3, 4, 5, 6, 7]⟩
        omega
      ·  -- no
        refine K.RW.q rfl (by kernel_rfl) (K.QR.nice (v := .bool (decide ((((j : Nat) : Int) : Int) < (((sa.length : Nat) : Int) : Int)))) (by kernel_rfl) (congrArg Value.bool (decide_eq_false h_25))) ?_
        refine K.RW.qs [.bool false] (by kernel_rfl) ?_
        refine K.RW.nil ?_
        refine K.thn_normal ?_
        refine K.KW.ifF rfl ?_
        refine K.KW.exit ?_
        refine K.thn_exit ?_
        refine K.thn_exit ?_
        refine K.blk_hit ?_
        refine K.thn_normal ?_
        refine K.KW.seq ?_
        -- 21 :82
        refine K.KW.region ?_
        refine K.RW.qs [.int .u32 0] (by kernel_rfl) ?_
        refine K.RW.nil ?_
        refine K.thn_normal ?_
        refine K.KW.seq ?_
        refine K.KW.seq ?_
        -- 22 :83
        refine K.KW.region ?_
        refine K.RW.qs [.int .i64 0] (by kernel_rfl) ?_
        refine K.RW.nil ?_
        refine K.thn_normal ?_
        refine K.KW.block ?_
        refine K.KW.unr 0 ?_
        refine K.Unr.zero ?_
        refine K.KW.seq ?_
        refine K.KW.seq ?_
        -- 23 :83
        refine K.KW.region ?_
        refine K.RW.qs [.pointer (some ⟨r_4, 0, none⟩)] (by kernel_rfl) ?_
        refine K.RW.q rfl rfl (K.QR.ld1 (v := .int .i64 4) rfl rfl (by kernel_rfl) ((hS.blk 2 rfl hg_6).cell rfl)) ?_
        refine K.RW.qs [.bool false, .bool false] (by kernel_rfl) ?_
        refine K.RW.skip rfl (by kernel_rfl) ?_
        refine K.RW.skip rfl (by kernel_rfl) ?_
        refine K.RW.skip rfl (by kernel_rfl) ?_
        refine K.RW.qs [.bool false, .bool false] (by kernel_rfl) ?_
        refine K.RW.skip rfl (by kernel_rfl) ?_
        refine K.RW.skip rfl (by kernel_rfl) ?_
        refine K.RW.skip rfl (by kernel_rfl) ?_
        refine K.RW.skip rfl (by kernel_rfl) ?_
        refine K.RW.skip rfl (by kernel_rfl) ?_
        refine K.RW.qs [.bool false] (by kernel_rfl) ?_
        refine K.RW.nil ?_
        refine K.thn_normal ?_
        refine K.KW.ifF rfl ?_
        refine K.KW.exit ?_
        refine K.thn_exit ?_
        refine K.thn_exit ?_
        refine K.blk_hit ?_
        refine K.thn_normal ?_
        refine K.KW.seq ?_
        refine K.KW.seq ?_
        -- 28 :89
        refine K.KW.region ?_
        refine K.RW.qs [.pointer (some ⟨r_4, 0, none⟩)] (by kernel_rfl) ?_
        refine K.RW.q rfl rfl (K.QR.ld1 (v := .int .i64 4) rfl rfl (by kernel_rfl) ((hS.blk 2 rfl hg_6).cell rfl)) ?_
        refine K.RW.qs [.bool false, .bool false, .pointer (some ⟨r_4, 0, none⟩)] (by kernel_rfl) ?_
        refine K.RW.q rfl (by kernel_rfl) (K.QR.ld1 (v := .int .i64 4) rfl rfl (by kernel_rfl) ((hS.blk 2 rfl hg_6).cell rfl)) ?_
        refine K.RW.qs [.bool false, .bool false] (by kernel_rfl) ?_
        refine K.RW.nil ?_
        refine K.thn_normal ?_
        refine K.KW.ifF rfl ?_
        refine K.KW.skip ?_
        refine K.thn_normal ?_
        refine K.KW.seq ?_
        refine K.KW.seq ?_
        -- 30 :92
        refine K.KW.region ?_
        refine K.RW.qs [.bool true, .bool true, .pointer (some ⟨r_4, 0, none⟩)] (by kernel_rfl) ?_
        refine K.RW.q rfl (by kernel_rfl) (K.QR.ld1 (v := .int .i64 4) rfl rfl (by kernel_rfl) ((hS.blk 2 rfl hg_6).cell rfl)) ?_
        refine K.RW.qs [.bool false, .bool false, .bool false] (by kernel_rfl) ?_
        refine K.RW.skip rfl (by kernel_rfl) ?_
        refine K.RW.skip rfl (by kernel_rfl) ?_
        refine K.RW.skip rfl (by kernel_rfl) ?_
        refine K.RW.qs [.bool false] (by kernel_rfl) ?_
        refine K.RW.nil ?_
        refine K.thn_normal ?_
        refine K.KW.ifF rfl ?_
        refine K.KW.skip ?_
        refine K.thn_normal ?_
        refine K.KW.seq ?_
        refine K.KW.seq ?_
        -- 32 :95
        refine K.KW.region ?_
        refine K.RW.qs [.bool true, .bool false, .bool false] (by kernel_rfl) ?_
        refine K.RW.skip rfl (by kernel_rfl) ?_
        refine K.RW.skip rfl (by kernel_rfl) ?_
        refine K.RW.skip rfl (by kernel_rfl) ?_
        refine K.RW.qs [.bool false, .bool false] (by kernel_rfl) ?_
        refine K.RW.skip rfl (by kernel_rfl) ?_
        refine K.RW.skip rfl (by kernel_rfl) ?_
        refine K.RW.skip rfl (by kernel_rfl) ?_
        refine K.RW.qs [.bool false] (by kernel_rfl) ?_
        refine K.RW.nil ?_
        refine K.thn_normal ?_
        refine K.KW.ifF rfl ?_
        refine K.KW.skip ?_
        refine K.thn_normal ?_
        refine K.KW.seq ?_
        refine K.KW.seq ?_
        -- 34 :98
        refine K.KW.region ?_
        refine K.RW.qs [.pointer (some ⟨r_4, 0, none⟩)] (by kernel_rfl) ?_
        refine K.RW.q rfl rfl (K.QR.ld1 (v := .int .i64 4) rfl rfl (by kernel_rfl) ((hS.blk 2 rfl hg_6).cell rfl)) ?_
        refine K.RW.qs [.bool true] (by kernel_rfl) ?_
        refine K.RW.nil ?_
        refine K.thn_normal ?_
        refine K.KW.ifT rfl ?_
        refine K.KW.seq ?_
        -- 35 :99
        refine K.KW.region ?_
        refine K.RW.qs [.pointer (some ⟨r_1, 1, none⟩)] (by kernel_rfl) ?_
        refine K.RW.q rfl rfl (K.QR.ld1 (v := .slice s sa.length cs) rfl rfl (by kernel_rfl) ((hS.blk 3 rfl hg_3).cell rfl)) ?_
        refine K.RW.qs [.pointer (some ⟨r_4, 1, none⟩)] (by kernel_rfl) ?_
        refine K.RW.q rfl rfl (K.QR.ld1 (v := .int .u32 key) rfl rfl (by kernel_rfl) ((hS.blk 2 rfl hg_6).cell rfl)) ?_
        refine K.RW.qs [.pointer (some ⟨r_4, 0, none⟩)] (by kernel_rfl) ?_
        refine K.RW.q rfl rfl (K.QR.ld1 (v := .int .i64 4) rfl rfl (by kernel_rfl) ((hS.blk 2 rfl hg_6).cell rfl)) ?_
        refine K.RW.qs [.bool false] (by kernel_rfl) ?_
        refine K.RW.l rfl (K.OW.gcall hS [5] [0, 1, 2, 3, 4, 6, 7] [.slice s sa.length cs, .int .u32 key, .bool false] (keysF_ok _ _ _ sa key (by omega) _ x2) ?_)
        clear hS; rintro _ _ w ⟨r_28, c_29, l_30, rfl, rfl, o_31⟩ hS
        replace hS : K.Sat w0 [g2, l_30, g_11, g_8, g_5, g_2, g1, g3, fr] w := hS
        refine K.RW.qs [.pointer (some ⟨r_1, 1, none⟩)] (by kernel_rfl) ?_
        refine K.RW.l rfl (K.OW.gst 5 [.slice r_28 ((keysR idI key key false sa).length) c_29] [.slice q qa.length cq, .slice r_28 ((keysR idI key key false sa).length) c_29, .slice m ma.length cm] hS hg_3 ?_)
        clear hS; intro w g_32 hg_33 hS
        replace hS : K.Sat w0 [g2, l_30, g_11, g_8, g_5, g_32, g1, g3, fr] w := hS
        refine K.RW.nil ?_
        refine K.thn_normal ?_
        refine K.KW.seq ?_
        -- 36 :100
        refine K.KW.region ?_
        refine K.RW.q rfl rfl (K.QR.ldN [.slice q qa.length cq, .slice r_28 ((keysR idI key key false sa).length) c_29, .slice m ma.length cm] rfl rfl (by kernel_rfl) (by kernel_rfl) (K.cells (K.cl ((hS.blk 5 rfl hg_33).cell rfl) (K.cl ((hS.blk 5 rfl hg_33).cell rfl) (K.cl ((hS.blk 5 rfl hg_33).cell rfl) K.cl0))))) ?_
        refine K.RW.q rfl rfl (K.QR.bd [(0, .int .i64 1)] [.int .i64 1, .int .u32 0] rfl rfl (by kernel_rfl)) ?_
        refine K.RW.l rfl (K.OW.gst 3 [.slice q qa.length cq, .slice r_28 ((keysR idI key key false sa).length) c_29, .slice m ma.length cm] [.slice q qa.length cq, .slice r_28 ((keysR idI key key false sa).length) c_29, .slice m ma.length cm] hS hg_9 ?_)
        clear hS; intro w g_34 hg_35 hS
        replace hS : K.Sat w0 [g2, l_30, g_11, g_34, g_5, g_32, g1, g3, fr] w := hS
        refine K.RW.l rfl (K.OW.gst 2 [.int .i64 1, .int .u32 0] [.int .i64 1, .int .u32 0] hS hg_12 ?_)
        clear hS; intro w g_36 hg_37 hS
        replace hS : K.Sat w0 [g2, l_30, g_36, g_34, g_5, g_32, g1, g3, fr] w := hS
        refine K.RW.nil ?_
        refine K.thn_normal ?_
        refine K.KW.ret ?_
        refine K.thn_ret ?_
        have hany : anyT idI key sa = true := by have h := hf; rw [List.take_of_length_le (by omega)] at h; exact h
        have hA : applyT ⟨qa, sa, ma⟩ 4 key val = (⟨qa, (keysR idI key key false sa), ma⟩, 1, 0) := by rw [apS hr1 (by decide), hany]; rfl
        rw [hA]
        refine ⟨.inr rfl, rfl, (.tuple #[.agg #[.slice q qa.length cq, .slice r_28 ((keysR idI key key false sa).length) c_29, .slice m ma.length cm], .agg #[.int .i64 1, .int .u32 0]]), K.resAt (rs := [.cell 4 42, .cell 5 52]) [.agg #[.slice q qa.length cq, .slice r_28 ((keysR idI key key false sa).length) c_29, .slice m ma.length cm], .agg #[.int .i64 1, .int .u32 0]] rfl ⟨⟨_, rfl, K.lvN [.slice q qa.length cq, .slice r_28 ((keysR idI key key false sa).length) c_29, .slice m ma.length cm] (by kernel_rfl) (by kernel_rfl) (K.cells (K.cl ((hS.blk 3 rfl hg_35).cell rfl) (K.cl ((hS.blk 3 rfl hg_35).cell rfl) (K.cl ((hS.blk 3 rfl hg_35).cell rfl) K.cl0))))⟩, ⟨_, rfl, K.lvN [.int .i64 1, .int .u32 0] (by kernel_rfl) (by kernel_rfl) (K.cells (K.cl ((hS.blk 2 rfl hg_37).cell rfl) (K.cl ((hS.blk 2 rfl hg_37).cell rfl) K.cl0)))⟩, trivial⟩, [g1, l_30, g3], ?_, hS.pick [6, 1, 7, 8]⟩
        exact ⟨q, cq, r_28, c_29, m, cm, g1, l_30, g3, rfl, rfl, x1, rdU_own o_31 rfl, x3, hc⟩

set_option maxHeartbeats 1000000 in
set_option maxRecDepth 100000 in
theorem rapply5_ok (w0 : World) (q s m : Option Addr) (cq cs cm : Nat) (qa sa : List Int) (ma : List PairM) (key val : Int) (h1 : qa.length ≤ 1000000) (h2 : sa.length ≤ 1000000) (h3 : ma.length ≤ 1000000) (hr1 : rising sa) (hr2 : rising (keysP ma)) (hc : qa.length ≤ cq) (g1 : K.Cs) (x1 : ∀ w, K.Sat w0 [g1] w → K.RowE w q qa.length 1 (fun i => cU32 (qa.getD i 0))) (g2 : K.Cs) (x2 : ∀ w, K.Sat w0 [g2] w → K.RowE w s sa.length 1 (fun i => cU32 (sa.getD i 0))) (g3 : K.Cs) (x3 : ∀ w, K.Sat w0 [g3] w → K.RowE w m ma.length 2 (fun i => cPair (ma.getD i p0))) :
    K.GC Try.prog w0 33 #[.agg #[.slice q qa.length cq, .slice s sa.length cs, .slice m ma.length cm], .agg #[.int .i64 5, .int .u32 key, .int .u32 val]] [g1, g2, g3] (ApR w0 (applyT ⟨qa, sa, ma⟩ 5 key val)) := by
  refine K.GC.mk (n := 192) Try.func33 rfl rfl [.agg #[.slice q qa.length cq, .slice s sa.length cs, .slice m ma.length cm], .agg #[.int .i64 5, .int .u32 key, .int .u32 val]] rfl rfl ?_
  intro fr w hS
  replace hS : K.Sat w0 [g1, g2, g3, fr] w := hS
  refine K.KW.seq ?_
  -- 0 :60
  refine K.KW.region ?_
  refine K.RW.l rfl (K.OW.gnew 42 [.slice q qa.length cq, .slice s sa.length cs, .slice m ma.length cm] hS ?_)
  clear hS; intro w r_1 g_2 hg_3 hS
  refine K.RW.l rfl (K.OW.gnew 45 [.int .i64 5, .int .u32 key, .int .u32 val] hS ?_)
  clear hS; intro w r_4 g_5 hg_6 hS
  refine K.RW.l rfl (K.OW.gnew 42 [.slice none 0 0, .slice none 0 0, .slice none 0 0] hS ?_)
  clear hS; intro w r_7 g_8 hg_9 hS
  refine K.RW.l rfl (K.OW.gnew 52 [.int .i64 0, .int .u32 0] hS ?_)
  clear hS; intro w r_10 g_11 hg_12 hS
  refine K.RW.nil ?_
  refine K.thn_normal ?_
  refine K.KW.seq ?_
  refine K.KW.seq ?_
  -- 1 :61
  refine K.KW.region ?_
  refine K.RW.qs [.pointer (some ⟨r_4, 0, none⟩)] (by kernel_rfl) ?_
  refine K.RW.q rfl rfl (K.QR.ld1 (v := .int .i64 5) rfl rfl (by kernel_rfl) ((hS.blk 2 rfl hg_6).cell rfl)) ?_
  refine K.RW.qs [.bool false] (by kernel_rfl) ?_
  refine K.RW.nil ?_
  refine K.thn_normal ?_
  refine K.KW.ifF rfl ?_
  refine K.KW.skip ?_
  refine K.thn_normal ?_
  refine K.KW.seq ?_
  refine K.KW.seq ?_
  -- 10 :70
  refine K.KW.region ?_
  refine K.RW.qs [.pointer (some ⟨r_4, 0, none⟩)] (by kernel_rfl) ?_
  refine K.RW.q rfl rfl (K.QR.ld1 (v := .int .i64 5) rfl rfl (by kernel_rfl) ((hS.blk 2 rfl hg_6).cell rfl)) ?_
  refine K.RW.qs [.bool false, .bool false] (by kernel_rfl) ?_
  refine K.RW.skip rfl (by kernel_rfl) ?_
  refine K.RW.skip rfl (by kernel_rfl) ?_
  refine K.RW.skip rfl (by kernel_rfl) ?_
  refine K.RW.skip rfl (by kernel_rfl) ?_
  refine K.RW.qs [.bool false] (by kernel_rfl) ?_
  refine K.RW.nil ?_
  refine K.thn_normal ?_
  refine K.KW.ifF rfl ?_
  refine K.KW.skip ?_
  refine K.thn_normal ?_
  refine K.KW.seq ?_
  refine K.KW.seq ?_
  -- 12 :73
  refine K.KW.region ?_
  refine K.RW.qs [.pointer (some ⟨r_4, 0, none⟩)] (by kernel_rfl) ?_
  refine K.RW.q rfl rfl (K.QR.ld1 (v := .int .i64 5) rfl rfl (by kernel_rfl) ((hS.blk 2 rfl hg_6).cell rfl)) ?_
  refine K.RW.qs [.bool false] (by kernel_rfl) ?_
  refine K.RW.nil ?_
  refine K.thn_normal ?_
  refine K.KW.ifF rfl ?_
  refine K.KW.skip ?_
  refine K.thn_normal ?_
  refine K.KW.seq ?_
  -- 16 :78
  refine K.KW.region ?_
  refine K.RW.qs [.bool false] (by kernel_rfl) ?_
  refine K.RW.nil ?_
  refine K.thn_normal ?_
  refine K.KW.seq ?_
  refine K.KW.seq ?_
  -- 17 :79
  refine K.KW.region ?_
  refine K.RW.qs [.int .i64 0] (by kernel_rfl) ?_
  refine K.RW.nil ?_
  refine K.thn_normal ?_
  refine K.KW.block ?_
  refine K.KW.loop (fun m_ F_ w_ => ∃ (j : Nat) (f : Bool), m_ = sa.length - j ∧ K.Sl F_ [(0, .agg #[.slice q qa.length cq, .slice s sa.length cs, .slice m ma.length cm]), (1, .agg #[.int .i64 5, .int .u32 key, .int .u32 val]), (2, .pointer (some ⟨r_1, 0, none⟩)), (3, .pointer (some ⟨r_4, 0, none⟩)), (4, .pointer (some ⟨r_7, 0, none⟩)), (5, .pointer (some ⟨r_10, 0, none⟩)), (9, .bool f), (10, .int .i64 ((j : Nat) : Int)), (192, undef)] ∧ j ≤ sa.length ∧ anyT idI key (sa.take j) = f ∧ K.Sat w0 [g_11, g_8, g_5, g_2, g1, g2, g3, fr] w_) ((fun (j : Nat) (f : Bool) => sa.length - j) 0 false) ?_ ?_
  · -- begins
    exact ⟨0, false, rfl, ⟨by rfl, by rfl, by rfl, by rfl, by rfl, by rfl, by rfl, by rfl, by rfl, trivial⟩, (by omega), (rfl), hS.pick [0, 1, 2, 3, 4, 5, 6, 7]⟩
  · -- a round
    clear hS
    intro m_13 F_14 w hI
    obtain ⟨j, f, rfl, sl_15, p_16, hf, hS⟩ := hI
    rw [← K.Sl.puts sl_15]; clear sl_15
    cases f
    ·
      refine K.KW.seq ?_
      refine K.KW.seq ?_
      -- 18 :79
      refine K.KW.region ?_
      refine K.RW.qs [.pointer (some ⟨r_4, 0, none⟩)] (by kernel_rfl) ?_
      refine K.RW.q rfl rfl (K.QR.ld1 (v := .int .i64 5) rfl rfl (by kernel_rfl) ((hS.blk 2 rfl hg_6).cell rfl)) ?_
      refine K.RW.qs [.bool true, .bool true, .pointer (some ⟨r_4, 0, none⟩)] (by kernel_rfl) ?_
      refine K.RW.q rfl (by kernel_rfl) (K.QR.ld1 (v := .int .i64 5) rfl rfl (by kernel_rfl) ((hS.blk 2 rfl hg_6).cell rfl)) ?_
      refine K.RW.qs [.bool true, .bool true, .bool true, .int .i64 ((j : Nat) : Int), .pointer (some ⟨r_1, 1, none⟩)] (by kernel_rfl) ?_
      refine K.RW.q rfl (by kernel_rfl) (K.QR.ld1 (v := .slice s sa.length cs) rfl rfl (by kernel_rfl) ((hS.blk 3 rfl hg_3).cell rfl)) ?_
      refine K.RW.q rfl (by kernel_rfl) (K.QR.len (P := Try.prog) rfl rfl Try.underlying39) ?_
      by_cases h_17 : (((j : Nat) : Int) : Int) < (((sa.length : Nat) : Int) : Int)
      ·  -- yes
        refine K.RW.q rfl (by kernel_rfl) (K.QR.nice (v := .bool (decide ((((j : Nat) : Int) : Int) < (((sa.length : Nat) : Int) : Int)))) (by kernel_rfl) (congrArg Value.bool (decide_eq_true h_17))) ?_
        refine K.RW.qs [.bool true] (by kernel_rfl) ?_
        refine K.RW.nil ?_
        refine K.thn_normal ?_
        refine K.KW.ifT rfl ?_
        refine K.KW.skip ?_
        refine K.thn_normal ?_
        refine K.KW.seq ?_
        refine K.KW.block ?_
        -- 20 :80
        obtain ⟨b_18, of_19, rfl, _⟩ := (x2 _ (hS.pick [5])).at_ (by omega)
        refine K.KW.gdrawn [3, 5] hS (by kernel_rfl) ?_
        clear hS; intro w hS
        refine K.DW.l 0 rfl (by kernel_rfl) rfl (K.OW.q rfl (K.QR.k (v := .bool false) (by kernel_rfl)) ?_)
        refine ⟨.inl (hS.pick [3, 5]), ?_⟩
        refine K.DW.l 1 rfl (by kernel_rfl) rfl (K.OW.q rfl (K.QR.k (v := .bool false) (by kernel_rfl)) ?_)
        refine ⟨.inl (hS.pick [3, 5]), ?_⟩
        refine K.DW.q 2 (by kernel_rfl) rfl rfl (by kernel_rfl) (by kernel_rfl) (fun w hS => K.QR.k (v := .pointer (some ⟨r_1, 1, none⟩)) (by kernel_rfl)) (hS.pick [3, 5]) ?_
        refine K.DW.q 3 (by kernel_rfl) rfl rfl (by kernel_rfl) (by kernel_rfl) (fun w hS => K.QR.ld1 (v := .slice (some ⟨b_18, of_19, none⟩) sa.length cs) rfl rfl (by kernel_rfl) ((hS.blk 0 rfl hg_3).cell rfl)) (hS.pick [3, 5]) ?_
        refine K.DW.q 4 (by kernel_rfl) rfl rfl (by kernel_rfl) (by kernel_rfl) (fun w hS => K.QR.k (v := .int .i64 ((j : Nat) : Int)) (by kernel_rfl)) (hS.pick [3, 5]) ?_
        refine K.DW.q 5 (by kernel_rfl) rfl rfl (by kernel_rfl) (by kernel_rfl) (fun w hS => K.QR.ix (of_19 + j * 1) 1 rfl rfl rfl Try.underlying39 (by kernel_rfl) (by omega) (by first | (simp; done) | omega | (simp; omega))) (hS.pick [3, 5]) ?_
        refine K.DW.q 6 (by kernel_rfl) rfl rfl (by kernel_rfl) (by kernel_rfl) (fun w hS => K.QR.ld1 (v := .int .u32 (sa.getD j 0)) rfl rfl (by kernel_rfl) ((x2 _ (hS.pick [1])).ld j (by omega) 0 _ rfl)) (hS.pick [3, 5]) ?_
        refine K.DW.l 7 rfl (by kernel_rfl) (by kernel_rfl) (K.OW.q rfl (K.QR.k (v := .pointer (some ⟨r_4, 1, none⟩)) (by kernel_rfl)) ?_)
        refine ⟨.inl (hS.pick [3, 5]), ?_⟩
        refine K.DW.l 8 rfl (by kernel_rfl) (by kernel_rfl) (K.OW.q rfl (K.QR.ld1 (v := .int .u32 key) rfl rfl (by kernel_rfl) ((hS.blk 2 rfl hg_6).cell rfl)) ?_)
        refine ⟨.inl (hS.pick [3, 5]), ?_⟩
        by_cases h_20 : (sa.getD j 0 : Int) = (key : Int)
        ·  -- yes
          refine K.DW.l 9 rfl (by kernel_rfl) (by kernel_rfl) (K.OW.q rfl (K.QR.nice (v := .bool ((sa.getD j 0 : Int) == (key : Int))) (by kernel_rfl) (congrArg Value.bool (beq_iff_eq.2 h_20))) ?_)
          refine ⟨.inl (hS.pick [3, 5]), ?_⟩
          refine K.DW.l 10 rfl (by kernel_rfl) rfl (K.OW.q rfl (K.QR.k (v := .bool true) (by kernel_rfl)) ?_)
          refine ⟨.inl (hS.pick [3, 5]), ?_⟩
          refine K.DW.l 11 rfl (by kernel_rfl) rfl (K.OW.q rfl (K.QR.k (v := .bool true) (by kernel_rfl)) ?_)
          refine ⟨.inl (hS.pick [3, 5]), ?_⟩
          refine K.DW.done (by kernel_rfl) ?_
          refine K.blk_normal ?_
          refine K.thn_normal ?_
          -- 19 :79
          refine K.KW.region ?_
          refine K.RW.qs [.int .i64 ((j : Nat) : Int)] (by kernel_rfl) ?_
          refine K.RW.q rfl rfl (K.QR.n64 ((((j : Nat) : Int) : Int) + (1 : Int)) ((j + 1 : Nat) : Int) (by kernel_rfl) (by omega)) ?_
          refine K.RW.qs [.int .i64 ((j + 1 : Nat) : Int)] (by kernel_rfl) ?_
          refine K.RW.nil ?_
          refine K.thn_normal ?_
          refine ⟨_, ?_, j + 1, true, rfl, ⟨by rfl, by rfl, by rfl, by rfl, by rfl, by rfl, by rfl, by rfl, by rfl, trivial⟩, (by omega), ((anyT_next (d := 0) hf (by omega)).trans (any_y (by assumption))), hS.pick [0, 1, 2, 3, 4, 5, 6, 7]⟩
          omega
        ·  -- no
          refine K.DW.l 9 rfl (by kernel_rfl) (by kernel_rfl) (K.OW.q rfl (K.QR.nice (v := .bool ((sa.getD j 0 : Int) == (key : Int))) (by kernel_rfl) (congrArg Value.bool (beq_eq_false_iff_ne.2 h_20))) ?_)
          refine ⟨.inl (hS.pick [3, 5]), ?_⟩
          refine K.DW.l 10 rfl (by kernel_rfl) rfl (K.OW.q rfl (K.QR.k (v := .bool false) (by kernel_rfl)) ?_)
          refine ⟨.inl (hS.pick [3, 5]), ?_⟩
          refine K.DW.l 11 rfl (by kernel_rfl) rfl (K.OW.q rfl (K.QR.k (v := .bool false) (by kernel_rfl)) ?_)
          refine ⟨.inl (hS.pick [3, 5]), ?_⟩
          refine K.DW.done (by kernel_rfl) ?_
          refine K.blk_normal ?_
          refine K.thn_normal ?_
          -- 19 :79
          refine K.KW.region ?_
          refine K.RW.qs [.int .i64 ((j : Nat) : Int)] (by kernel_rfl) ?_
          refine K.RW.q rfl rfl (K.QR.n64 ((((j : Nat) : Int) : Int) + (1 : Int)) ((j + 1 : Nat) : Int) (by kernel_rfl) (by omega)) ?_
          refine K.RW.qs [.int .i64 ((j + 1 : Nat) : Int)] (by kernel_rfl) ?_
          refine K.RW.nil ?_
          refine K.thn_normal ?_
          refine ⟨_, ?_, j + 1, false, rfl, ⟨by rfl, by rfl, by rfl, by rfl, by rfl, by rfl, by rfl, by rfl, by rfl, trivial⟩, (by omega), ((anyT_next (d := 0) hf (by omega)).trans (any_n (by assumption))), hS.pick [0, 1, 2, 3, 4, 5, 6, 7]⟩
          omega
      ·  -- no
        refine K.RW.q rfl (by kernel_rfl) (K.QR.nice (v := .bool (decide ((((j : Nat) : Int) : Int) < (((sa.length : Nat) : Int) : Int)))) (by kernel_rfl) (congrArg Value.bool (decide_eq_false h_17))) ?_
        refine K.RW.qs [.bool false] (by kernel_rfl) ?_
        refine K.RW.nil ?_
        refine K.thn_normal ?_
        refine K.KW.ifF rfl ?_
        refine K.KW.exit ?_
        refine K.thn_exit ?_
        refine K.thn_exit ?_
        refine K.blk_hit ?_
        refine K.thn_normal ?_
        refine K.KW.seq ?_
        -- 21 :82
        refine K.KW.region ?_
        refine K.RW.qs [.int .u32 0] (by kernel_rfl) ?_
        refine K.RW.nil ?_
        refine K.thn_normal ?_
        refine K.KW.seq ?_
        refine K.KW.seq ?_
        -- 22 :83
        refine K.KW.region ?_
        refine K.RW.qs [.int .i64 0] (by kernel_rfl) ?_
        refine K.RW.nil ?_
        refine K.thn_normal ?_
        refine K.KW.block ?_
        refine K.KW.unr 0 ?_
        refine K.Unr.zero ?_
        refine K.KW.seq ?_
        refine K.KW.seq ?_
        -- 23 :83
        refine K.KW.region ?_
        refine K.RW.qs [.pointer (some ⟨r_4, 0, none⟩)] (by kernel_rfl) ?_
        refine K.RW.q rfl rfl (K.QR.ld1 (v := .int .i64 5) rfl rfl (by kernel_rfl) ((hS.blk 2 rfl hg_6).cell rfl)) ?_
        refine K.RW.qs [.bool false, .bool false] (by kernel_rfl) ?_
        refine K.RW.skip rfl (by kernel_rfl) ?_
        refine K.RW.skip rfl (by kernel_rfl) ?_
        refine K.RW.skip rfl (by kernel_rfl) ?_
        refine K.RW.qs [.bool false, .bool false] (by kernel_rfl) ?_
        refine K.RW.skip rfl (by kernel_rfl) ?_
        refine K.RW.skip rfl (by kernel_rfl) ?_
        refine K.RW.skip rfl (by kernel_rfl) ?_
        refine K.RW.skip rfl (by kernel_rfl) ?_
        refine K.RW.skip rfl (by kernel_rfl) ?_
        refine K.RW.qs [.bool false] (by kernel_rfl) ?_
        refine K.RW.nil ?_
        refine K.thn_normal ?_
        refine K.KW.ifF rfl ?_
        refine K.KW.exit ?_
        refine K.thn_exit ?_
        refine K.thn_exit ?_
        refine K.blk_hit ?_
        refine K.thn_normal ?_
        refine K.KW.seq ?_
        refine K.KW.seq ?_
        -- 28 :89
        refine K.KW.region ?_
        refine K.RW.qs [.pointer (some ⟨r_4, 0, none⟩)] (by kernel_rfl) ?_
        refine K.RW.q rfl rfl (K.QR.ld1 (v := .int .i64 5) rfl rfl (by kernel_rfl) ((hS.blk 2 rfl hg_6).cell rfl)) ?_
        refine K.RW.qs [.bool false, .bool false, .pointer (some ⟨r_4, 0, none⟩)] (by kernel_rfl) ?_
        refine K.RW.q rfl (by kernel_rfl) (K.QR.ld1 (v := .int .i64 5) rfl rfl (by kernel_rfl) ((hS.blk 2 rfl hg_6).cell rfl)) ?_
        refine K.RW.qs [.bool false, .bool false] (by kernel_rfl) ?_
        refine K.RW.nil ?_
        refine K.thn_normal ?_
        refine K.KW.ifF rfl ?_
        refine K.KW.skip ?_
        refine K.thn_normal ?_
        refine K.KW.seq ?_
        refine K.KW.seq ?_
        -- 30 :92
        refine K.KW.region ?_
        refine K.RW.qs [.bool false, .bool false] (by kernel_rfl) ?_
        refine K.RW.skip rfl (by kernel_rfl) ?_
        refine K.RW.skip rfl (by kernel_rfl) ?_
        refine K.RW.skip rfl (by kernel_rfl) ?_
        refine K.RW.qs [.bool false, .bool false] (by kernel_rfl) ?_
        refine K.RW.skip rfl (by kernel_rfl) ?_
        refine K.RW.skip rfl (by kernel_rfl) ?_
        refine K.RW.skip rfl (by kernel_rfl) ?_
        refine K.RW.qs [.bool false] (by kernel_rfl) ?_
        refine K.RW.nil ?_
        refine K.thn_normal ?_
        refine K.KW.ifF rfl ?_
        refine K.KW.skip ?_
        refine K.thn_normal ?_
        refine K.KW.seq ?_
        refine K.KW.seq ?_
        -- 32 :95
        refine K.KW.region ?_
        refine K.RW.qs [.bool false, .bool true, .bool true, .pointer (some ⟨r_4, 0, none⟩)] (by kernel_rfl) ?_
        refine K.RW.q rfl (by kernel_rfl) (K.QR.ld1 (v := .int .i64 5) rfl rfl (by kernel_rfl) ((hS.blk 2 rfl hg_6).cell rfl)) ?_
        refine K.RW.qs [.bool true, .bool true, .bool true, .pointer (some ⟨r_4, 0, none⟩)] (by kernel_rfl) ?_
        refine K.RW.q rfl (by kernel_rfl) (K.QR.ld1 (v := .int .i64 5) rfl rfl (by kernel_rfl) ((hS.blk 2 rfl hg_6).cell rfl)) ?_
        refine K.RW.qs [.bool true, .bool true] (by kernel_rfl) ?_
        refine K.RW.nil ?_
        refine K.thn_normal ?_
        refine K.KW.ifT rfl ?_
        refine K.KW.seq ?_
        -- 33 :96
        refine K.KW.region ?_
        refine K.RW.q rfl rfl (K.QR.ldN [.slice q qa.length cq, .slice s sa.length cs, .slice m ma.length cm] rfl rfl (by kernel_rfl) (by kernel_rfl) (K.cells (K.cl ((hS.blk 3 rfl hg_3).cell rfl) (K.cl ((hS.blk 3 rfl hg_3).cell rfl) (K.cl ((hS.blk 3 rfl hg_3).cell rfl) K.cl0))))) ?_
        refine K.RW.q rfl rfl (K.QR.bd [(0, .int .i64 4)] [.int .i64 4, .int .u32 0] rfl rfl (by kernel_rfl)) ?_
        refine K.RW.l rfl (K.OW.gst 1 [.slice q qa.length cq, .slice s sa.length cs, .slice m ma.length cm] [.slice q qa.length cq, .slice s sa.length cs, .slice m ma.length cm] hS hg_9 ?_)
        clear hS; intro w g_21 hg_22 hS
        replace hS : K.Sat w0 [g_11, g_21, g_5, g_2, g1, g2, g3, fr] w := hS
        refine K.RW.l rfl (K.OW.gst 0 [.int .i64 4, .int .u32 0] [.int .i64 4, .int .u32 0] hS hg_12 ?_)
        clear hS; intro w g_23 hg_24 hS
        replace hS : K.Sat w0 [g_23, g_21, g_5, g_2, g1, g2, g3, fr] w := hS
        refine K.RW.nil ?_
        refine K.thn_normal ?_
        refine K.KW.ret ?_
        refine K.thn_ret ?_
        have hany : anyT idI key sa = false := by have h := hf; rw [List.take_of_length_le (by omega)] at h; exact h
        have hA : applyT ⟨qa, sa, ma⟩ 5 key val = (⟨qa, sa, ma⟩, 4, 0) := by rw [apS hr1 (by decide), hany]; rfl
        rw [hA]
        refine ⟨.inr rfl, rfl, (.tuple #[.agg #[.slice q qa.length cq, .slice s sa.length cs, .slice m ma.length cm], .agg #[.int .i64 4, .int .u32 0]]), K.resAt (rs := [.cell 4 42, .cell 5 52]) [.agg #[.slice q qa.length cq, .slice s sa.length cs, .slice m ma.length cm], .agg #[.int .i64 4, .int .u32 0]] rfl ⟨⟨_, rfl, K.lvN [.slice q qa.length cq, .slice s sa.length cs, .slice m ma.length cm] (by kernel_rfl) (by kernel_rfl) (K.cells (K.cl ((hS.blk 1 rfl hg_22).cell rfl) (K.cl ((hS.blk 1 rfl hg_22).cell rfl) (K.cl ((hS.blk 1 rfl hg_22).cell rfl) K.cl0))))⟩, ⟨_, rfl, K.lvN [.int .i64 4, .int .u32 0] (by kernel_rfl) (by kernel_rfl) (K.cells (K.cl ((hS.blk 0 rfl hg_24).cell rfl) (K.cl ((hS.blk 0 rfl hg_24).cell rfl) K.cl0)))⟩, trivial⟩, [g1, g2, g3], ?_, hS.pick [4, 5, 6, 7]⟩
        exact ⟨q, cq, s, cs, m, cm, g1, g2, g3, rfl, rfl, x1, x2, x3, hc⟩
    ·
      refine K.KW.seq ?_
      refine K.KW.seq ?_
      -- 18 :79
      refine K.KW.region ?_
      refine K.RW.qs [.pointer (some ⟨r_4, 0, none⟩)] (by kernel_rfl) ?_
      refine K.RW.q rfl rfl (K.QR.ld1 (v := .int .i64 5) rfl rfl (by kernel_rfl) ((hS.blk 2 rfl hg_6).cell rfl)) ?_
      refine K.RW.qs [.bool true, .bool true, .pointer (some ⟨r_4, 0, none⟩)] (by kernel_rfl) ?_
      refine K.RW.q rfl (by kernel_rfl) (K.QR.ld1 (v := .int .i64 5) rfl rfl (by kernel_rfl) ((hS.blk 2 rfl hg_6).cell rfl)) ?_
      refine K.RW.qs [.bool true, .bool true, .bool true, .int .i64 ((j : Nat) : Int), .pointer (some ⟨r_1, 1, none⟩)] (by kernel_rfl) ?_
      refine K.RW.q rfl (by kernel_rfl) (K.QR.ld1 (v := .slice s sa.length cs) rfl rfl (by kernel_rfl) ((hS.blk 3 rfl hg_3).cell rfl)) ?_
      refine K.RW.q rfl (by kernel_rfl) (K.QR.len (P := Try.prog) rfl rfl Try.underlying39) ?_
      by_cases h_25 : (((j : Nat) : Int) : Int) < (((sa.length : Nat) : Int) : Int)
      ·  -- yes
        refine K.RW.q rfl (by kernel_rfl) (K.QR.nice (v := .bool (decide ((((j : Nat) : Int) : Int) < (((sa.length : Nat) : Int) : Int)))) (by kernel_rfl) (congrArg Value.bool (decide_eq_true h_25))) ?_
        refine K.RW.qs [.bool true] (by kernel_rfl) ?_
        refine K.RW.nil ?_
        refine K.thn_normal ?_
        refine K.KW.ifT rfl ?_
        refine K.KW.skip ?_
        refine K.thn_normal ?_
        refine K.KW.seq ?_
        refine K.KW.block ?_
        -- 20 :80
        obtain ⟨b_26, of_27, rfl, _⟩ := (x2 _ (hS.pick [5])).at_ (by omega)
        refine K.KW.gdrawn [] hS (by kernel_rfl) ?_
        clear hS; intro w hS
        refine K.DW.l 0 rfl (by kernel_rfl) rfl (K.OW.q rfl (K.QR.k (v := .bool true) (by kernel_rfl)) ?_)
        refine ⟨.inl (hS.pick []), ?_⟩
        refine K.DW.l 1 rfl (by kernel_rfl) rfl (K.OW.q rfl (K.QR.k (v := .bool true) (by kernel_rfl)) ?_)
        refine ⟨.inl (hS.pick []), ?_⟩
        refine K.DW.skip 2 (by kernel_rfl) rfl rfl (by kernel_rfl) (by kernel_rfl) (hS.pick []) ?_
        refine K.DW.skip 3 (by kernel_rfl) rfl rfl (by kernel_rfl) (by kernel_rfl) (hS.pick []) ?_
        refine K.DW.skip 4 (by kernel_rfl) rfl rfl (by kernel_rfl) (by kernel_rfl) (hS.pick []) ?_
        refine K.DW.skip 5 (by kernel_rfl) rfl rfl (by kernel_rfl) (by kernel_rfl) (hS.pick []) ?_
        refine K.DW.skip 6 (by kernel_rfl) rfl rfl (by kernel_rfl) (by kernel_rfl) (hS.pick []) ?_
        refine K.DW.skip 7 (by kernel_rfl) rfl rfl (by kernel_rfl) (by kernel_rfl) (hS.pick []) ?_
        refine K.DW.skip 8 (by kernel_rfl) rfl rfl (by kernel_rfl) (by kernel_rfl) (hS.pick []) ?_
        refine K.DW.skip 9 (by kernel_rfl) rfl rfl (by kernel_rfl) (by kernel_rfl) (hS.pick []) ?_
        refine K.DW.l 10 rfl (by kernel_rfl) rfl (K.OW.q rfl (K.QR.k (v := .bool true) (by kernel_rfl)) ?_)
        refine ⟨.inl (hS.pick []), ?_⟩
        refine K.DW.l 11 rfl (by kernel_rfl) rfl (K.OW.q rfl (K.QR.k (v := .bool true) (by kernel_rfl)) ?_)
        refine ⟨.inl (hS.pick []), ?_⟩
        refine K.DW.done (by kernel_rfl) ?_
        refine K.blk_normal ?_
        refine K.thn_normal ?_
        -- 19 :79
        refine K.KW.region ?_
        refine K.RW.qs [.int .i64 ((j : Nat) : Int)] (by kernel_rfl) ?_
        refine K.RW.q rfl rfl (K.QR.n64 ((((j : Nat) : Int) : Int) + (1 : Int)) ((j + 1 : Nat) : Int) (by kernel_rfl) (by omega)) ?_
        refine K.RW.qs [.int .i64 ((j + 1 : Nat) : Int)] (by kernel_rfl) ?_
        refine K.RW.nil ?_
        refine K.thn_normal ?_
        refine ⟨_, ?_, j + 1, true, rfl, ⟨by rfl, by rfl, by rfl, by rfl, by rfl, by rfl, by rfl, by rfl, by rfl, trivial⟩, (by omega), ((anyT_next (d := 0) hf (by omega)).trans any_t), hS.pick [0, 1, 2, 3, 4, 5, 6, 7]⟩
        omega
      ·  -- no
        refine K.RW.q rfl (by kernel_rfl) (K.QR.nice (v := .bool (decide ((((j : Nat) : Int) : Int) < (((sa.length : Nat) : Int) : Int)))) (by kernel_rfl) (congrArg Value.bool (decide_eq_false h_25))) ?_
        refine K.RW.qs [.bool false] (by kernel_rfl) ?_
        refine K.RW.nil ?_
        refine K.thn_normal ?_
        refine K.KW.ifF rfl ?_
        refine K.KW.exit ?_
        refine K.thn_exit ?_
        refine K.thn_exit ?_
        refine K.blk_hit ?_
        refine K.thn_normal ?_
        refine K.KW.seq ?_
        -- 21 :82
        refine K.KW.region ?_
        refine K.RW.qs [.int .u32 0] (by kernel_rfl) ?_
        refine K.RW.nil ?_
        refine K.thn_normal ?_
        refine K.KW.seq ?_
        refine K.KW.seq ?_
        -- 22 :83
        refine K.KW.region ?_
        refine K.RW.qs [.int .i64 0] (by kernel_rfl) ?_
        refine K.RW.nil ?_
        refine K.thn_normal ?_
        refine K.KW.block ?_
        refine K.KW.unr 0 ?_
        refine K.Unr.zero ?_
        refine K.KW.seq ?_
        refine K.KW.seq ?_
        -- 23 :83
        refine K.KW.region ?_
        refine K.RW.qs [.pointer (some ⟨r_4, 0, none⟩)] (by kernel_rfl) ?_
        refine K.RW.q rfl rfl (K.QR.ld1 (v := .int .i64 5) rfl rfl (by kernel_rfl) ((hS.blk 2 rfl hg_6).cell rfl)) ?_
        refine K.RW.qs [.bool false, .bool false] (by kernel_rfl) ?_
        refine K.RW.skip rfl (by kernel_rfl) ?_
        refine K.RW.skip rfl (by kernel_rfl) ?_
        refine K.RW.skip rfl (by kernel_rfl) ?_
        refine K.RW.qs [.bool false, .bool false] (by kernel_rfl) ?_
        refine K.RW.skip rfl (by kernel_rfl) ?_
        refine K.RW.skip rfl (by kernel_rfl) ?_
        refine K.RW.skip rfl (by kernel_rfl) ?_
        refine K.RW.skip rfl (by kernel_rfl) ?_
        refine K.RW.skip rfl (by kernel_rfl) ?_
        refine K.RW.qs [.bool false] (by kernel_rfl) ?_
        refine K.RW.nil ?_
        refine K.thn_normal ?_
        refine K.KW.ifF rfl ?_
        refine K.KW.exit ?_
        refine K.thn_exit ?_
        refine K.thn_exit ?_
        refine K.blk_hit ?_
        refine K.thn_normal ?_
        refine K.KW.seq ?_
        refine K.KW.seq ?_
        -- 28 :89
        refine K.KW.region ?_
        refine K.RW.qs [.pointer (some ⟨r_4, 0, none⟩)] (by kernel_rfl) ?_
        refine K.RW.q rfl rfl (K.QR.ld1 (v := .int .i64 5) rfl rfl (by kernel_rfl) ((hS.blk 2 rfl hg_6).cell rfl)) ?_
        refine K.RW.qs [.bool false, .bool false, .pointer (some ⟨r_4, 0, none⟩)] (by kernel_rfl) ?_
        refine K.RW.q rfl (by kernel_rfl) (K.QR.ld1 (v := .int .i64 5) rfl rfl (by kernel_rfl) ((hS.blk 2 rfl hg_6).cell rfl)) ?_
        refine K.RW.qs [.bool false, .bool false] (by kernel_rfl) ?_
        refine K.RW.nil ?_
        refine K.thn_normal ?_
        refine K.KW.ifF rfl ?_
        refine K.KW.skip ?_
        refine K.thn_normal ?_
        refine K.KW.seq ?_
        refine K.KW.seq ?_
        -- 30 :92
        refine K.KW.region ?_
        refine K.RW.qs [.bool true, .bool true, .pointer (some ⟨r_4, 0, none⟩)] (by kernel_rfl) ?_
        refine K.RW.q rfl (by kernel_rfl) (K.QR.ld1 (v := .int .i64 5) rfl rfl (by kernel_rfl) ((hS.blk 2 rfl hg_6).cell rfl)) ?_
        refine K.RW.qs [.bool true, .bool true, .bool true, .pointer (some ⟨r_4, 0, none⟩)] (by kernel_rfl) ?_
        refine K.RW.q rfl (by kernel_rfl) (K.QR.ld1 (v := .int .i64 5) rfl rfl (by kernel_rfl) ((hS.blk 2 rfl hg_6).cell rfl)) ?_
        refine K.RW.qs [.bool true, .bool true] (by kernel_rfl) ?_
        refine K.RW.nil ?_
        refine K.thn_normal ?_
        refine K.KW.ifT rfl ?_
        refine K.KW.seq ?_
        -- 31 :93
        refine K.KW.region ?_
        refine K.RW.q rfl rfl (K.QR.ldN [.slice q qa.length cq, .slice s sa.length cs, .slice m ma.length cm] rfl rfl (by kernel_rfl) (by kernel_rfl) (K.cells (K.cl ((hS.blk 3 rfl hg_3).cell rfl) (K.cl ((hS.blk 3 rfl hg_3).cell rfl) (K.cl ((hS.blk 3 rfl hg_3).cell rfl) K.cl0))))) ?_
        refine K.RW.qs [.int .u32 0] (by kernel_rfl) ?_
        refine K.RW.q rfl rfl (K.QR.bd [(0, .int .i64 3), (1, .int .u32 0)] [.int .i64 3, .int .u32 0] rfl rfl (by kernel_rfl)) ?_
        refine K.RW.l rfl (K.OW.gst 1 [.slice q qa.length cq, .slice s sa.length cs, .slice m ma.length cm] [.slice q qa.length cq, .slice s sa.length cs, .slice m ma.length cm] hS hg_9 ?_)
        clear hS; intro w g_28 hg_29 hS
        replace hS : K.Sat w0 [g_11, g_28, g_5, g_2, g1, g2, g3, fr] w := hS
        refine K.RW.l rfl (K.OW.gst 0 [.int .i64 3, .int .u32 0] [.int .i64 3, .int .u32 0] hS hg_12 ?_)
        clear hS; intro w g_30 hg_31 hS
        replace hS : K.Sat w0 [g_30, g_28, g_5, g_2, g1, g2, g3, fr] w := hS
        refine K.RW.nil ?_
        refine K.thn_normal ?_
        refine K.KW.ret ?_
        refine K.thn_ret ?_
        have hany : anyT idI key sa = true := by have h := hf; rw [List.take_of_length_le (by omega)] at h; exact h
        have hA : applyT ⟨qa, sa, ma⟩ 5 key val = (⟨qa, sa, ma⟩, 3, 0) := by rw [apS hr1 (by decide), hany]; rfl
        rw [hA]
        refine ⟨.inr rfl, rfl, (.tuple #[.agg #[.slice q qa.length cq, .slice s sa.length cs, .slice m ma.length cm], .agg #[.int .i64 3, .int .u32 0]]), K.resAt (rs := [.cell 4 42, .cell 5 52]) [.agg #[.slice q qa.length cq, .slice s sa.length cs, .slice m ma.length cm], .agg #[.int .i64 3, .int .u32 0]] rfl ⟨⟨_, rfl, K.lvN [.slice q qa.length cq, .slice s sa.length cs, .slice m ma.length cm] (by kernel_rfl) (by kernel_rfl) (K.cells (K.cl ((hS.blk 1 rfl hg_29).cell rfl) (K.cl ((hS.blk 1 rfl hg_29).cell rfl) (K.cl ((hS.blk 1 rfl hg_29).cell rfl) K.cl0))))⟩, ⟨_, rfl, K.lvN [.int .i64 3, .int .u32 0] (by kernel_rfl) (by kernel_rfl) (K.cells (K.cl ((hS.blk 0 rfl hg_31).cell rfl) (K.cl ((hS.blk 0 rfl hg_31).cell rfl) K.cl0)))⟩, trivial⟩, [g1, g2, g3], ?_, hS.pick [4, 5, 6, 7]⟩
        exact ⟨q, cq, s, cs, m, cm, g1, g2, g3, rfl, rfl, x1, x2, x3, hc⟩

set_option maxHeartbeats 1000000 in
set_option maxRecDepth 100000 in
theorem rapply6_ok (w0 : World) (q s m : Option Addr) (cq cs cm : Nat) (qa sa : List Int) (ma : List PairM) (key val : Int) (h1 : qa.length ≤ 1000000) (h2 : sa.length ≤ 1000000) (h3 : ma.length ≤ 1000000) (hr1 : rising sa) (hr2 : rising (keysP ma)) (hc : qa.length ≤ cq) (g1 : K.Cs) (x1 : ∀ w, K.Sat w0 [g1] w → K.RowE w q qa.length 1 (fun i => cU32 (qa.getD i 0))) (g2 : K.Cs) (x2 : ∀ w, K.Sat w0 [g2] w → K.RowE w s sa.length 1 (fun i => cU32 (sa.getD i 0))) (g3 : K.Cs) (x3 : ∀ w, K.Sat w0 [g3] w → K.RowE w m ma.length 2 (fun i => cPair (ma.getD i p0))) :
    K.GC Try.prog w0 33 #[.agg #[.slice q qa.length cq, .slice s sa.length cs, .slice m ma.length cm], .agg #[.int .i64 6, .int .u32 key, .int .u32 val]] [g1, g2, g3] (ApR w0 (applyT ⟨qa, sa, ma⟩ 6 key val)) := by
  refine K.GC.mk (n := 192) Try.func33 rfl rfl [.agg #[.slice q qa.length cq, .slice s sa.length cs, .slice m ma.length cm], .agg #[.int .i64 6, .int .u32 key, .int .u32 val]] rfl rfl ?_
  intro fr w hS
  replace hS : K.Sat w0 [g1, g2, g3, fr] w := hS
  refine K.KW.seq ?_
  -- 0 :60
  refine K.KW.region ?_
  refine K.RW.l rfl (K.OW.gnew 42 [.slice q qa.length cq, .slice s sa.length cs, .slice m ma.length cm] hS ?_)
  clear hS; intro w r_1 g_2 hg_3 hS
  refine K.RW.l rfl (K.OW.gnew 45 [.int .i64 6, .int .u32 key, .int .u32 val] hS ?_)
  clear hS; intro w r_4 g_5 hg_6 hS
  refine K.RW.l rfl (K.OW.gnew 42 [.slice none 0 0, .slice none 0 0, .slice none 0 0] hS ?_)
  clear hS; intro w r_7 g_8 hg_9 hS
  refine K.RW.l rfl (K.OW.gnew 52 [.int .i64 0, .int .u32 0] hS ?_)
  clear hS; intro w r_10 g_11 hg_12 hS
  refine K.RW.nil ?_
  refine K.thn_normal ?_
  refine K.KW.seq ?_
  refine K.KW.seq ?_
  -- 1 :61
  refine K.KW.region ?_
  refine K.RW.qs [.pointer (some ⟨r_4, 0, none⟩)] (by kernel_rfl) ?_
  refine K.RW.q rfl rfl (K.QR.ld1 (v := .int .i64 6) rfl rfl (by kernel_rfl) ((hS.blk 2 rfl hg_6).cell rfl)) ?_
  refine K.RW.qs [.bool false] (by kernel_rfl) ?_
  refine K.RW.nil ?_
  refine K.thn_normal ?_
  refine K.KW.ifF rfl ?_
  refine K.KW.skip ?_
  refine K.thn_normal ?_
  refine K.KW.seq ?_
  refine K.KW.seq ?_
  -- 10 :70
  refine K.KW.region ?_
  refine K.RW.qs [.pointer (some ⟨r_4, 0, none⟩)] (by kernel_rfl) ?_
  refine K.RW.q rfl rfl (K.QR.ld1 (v := .int .i64 6) rfl rfl (by kernel_rfl) ((hS.blk 2 rfl hg_6).cell rfl)) ?_
  refine K.RW.qs [.bool false, .bool false] (by kernel_rfl) ?_
  refine K.RW.skip rfl (by kernel_rfl) ?_
  refine K.RW.skip rfl (by kernel_rfl) ?_
  refine K.RW.skip rfl (by kernel_rfl) ?_
  refine K.RW.skip rfl (by kernel_rfl) ?_
  refine K.RW.qs [.bool false] (by kernel_rfl) ?_
  refine K.RW.nil ?_
  refine K.thn_normal ?_
  refine K.KW.ifF rfl ?_
  refine K.KW.skip ?_
  refine K.thn_normal ?_
  refine K.KW.seq ?_
  refine K.KW.seq ?_
  -- 12 :73
  refine K.KW.region ?_
  refine K.RW.qs [.pointer (some ⟨r_4, 0, none⟩)] (by kernel_rfl) ?_
  refine K.RW.q rfl rfl (K.QR.ld1 (v := .int .i64 6) rfl rfl (by kernel_rfl) ((hS.blk 2 rfl hg_6).cell rfl)) ?_
  refine K.RW.qs [.bool false] (by kernel_rfl) ?_
  refine K.RW.nil ?_
  refine K.thn_normal ?_
  refine K.KW.ifF rfl ?_
  refine K.KW.skip ?_
  refine K.thn_normal ?_
  refine K.KW.seq ?_
  -- 16 :78
  refine K.KW.region ?_
  refine K.RW.qs [.bool false] (by kernel_rfl) ?_
  refine K.RW.nil ?_
  refine K.thn_normal ?_
  refine K.KW.seq ?_
  refine K.KW.seq ?_
  -- 17 :79
  refine K.KW.region ?_
  refine K.RW.qs [.int .i64 0] (by kernel_rfl) ?_
  refine K.RW.nil ?_
  refine K.thn_normal ?_
  refine K.KW.block ?_
  refine K.KW.unr 0 ?_
  refine K.Unr.zero ?_
  refine K.KW.seq ?_
  refine K.KW.seq ?_
  -- 18 :79
  refine K.KW.region ?_
  refine K.RW.qs [.pointer (some ⟨r_4, 0, none⟩)] (by kernel_rfl) ?_
  refine K.RW.q rfl rfl (K.QR.ld1 (v := .int .i64 6) rfl rfl (by kernel_rfl) ((hS.blk 2 rfl hg_6).cell rfl)) ?_
  refine K.RW.qs [.bool true, .bool true, .pointer (some ⟨r_4, 0, none⟩)] (by kernel_rfl) ?_
  refine K.RW.q rfl (by kernel_rfl) (K.QR.ld1 (v := .int .i64 6) rfl rfl (by kernel_rfl) ((hS.blk 2 rfl hg_6).cell rfl)) ?_
  refine K.RW.qs [.bool false, .bool false, .bool false] (by kernel_rfl) ?_
  refine K.RW.skip rfl (by kernel_rfl) ?_
  refine K.RW.skip rfl (by kernel_rfl) ?_
  refine K.RW.skip rfl (by kernel_rfl) ?_
  refine K.RW.skip rfl (by kernel_rfl) ?_
  refine K.RW.skip rfl (by kernel_rfl) ?_
  refine K.RW.qs [.bool false] (by kernel_rfl) ?_
  refine K.RW.nil ?_
  refine K.thn_normal ?_
  refine K.KW.ifF rfl ?_
  refine K.KW.exit ?_
  refine K.thn_exit ?_
  refine K.thn_exit ?_
  refine K.blk_hit ?_
  refine K.thn_normal ?_
  refine K.KW.seq ?_
  -- 21 :82
  refine K.KW.region ?_
  refine K.RW.qs [.int .u32 0] (by kernel_rfl) ?_
  refine K.RW.nil ?_
  refine K.thn_normal ?_
  refine K.KW.seq ?_
  refine K.KW.seq ?_
  -- 22 :83
  refine K.KW.region ?_
  refine K.RW.qs [.int .i64 0] (by kernel_rfl) ?_
  refine K.RW.nil ?_
  refine K.thn_normal ?_
  refine K.KW.block ?_
  refine K.KW.loop (fun m_ F_ w_ => ∃ (j : Nat) (f : Bool) (vv : Int), m_ = ma.length - j ∧ K.Sl F_ [(0, .agg #[.slice q qa.length cq, .slice s sa.length cs, .slice m ma.length cm]), (1, .agg #[.int .i64 6, .int .u32 key, .int .u32 val]), (2, .pointer (some ⟨r_1, 0, none⟩)), (3, .pointer (some ⟨r_4, 0, none⟩)), (4, .pointer (some ⟨r_7, 0, none⟩)), (5, .pointer (some ⟨r_10, 0, none⟩)), (9, .bool f), (11, .int .u32 vv), (12, .int .i64 ((j : Nat) : Int)), (192, undef)] ∧ j ≤ ma.length ∧ anyT PairM.key key (ma.take j) = f ∧ vv = (lastT PairM.key key p0 (ma.take j)).val ∧ K.Sat w0 [g_11, g_8, g_5, g_2, g1, g2, g3, fr] w_) ((fun (j : Nat) (f : Bool) (vv : Int) => ma.length - j) 0 false 0) ?_ ?_
  · -- begins
    exact ⟨0, false, 0, rfl, ⟨by rfl, by rfl, by rfl, by rfl, by rfl, by rfl, by rfl, by rfl, by rfl, by rfl, trivial⟩, (by omega), (rfl), (rfl), hS.pick [0, 1, 2, 3, 4, 5, 6, 7]⟩
  · -- a round
    clear hS
    intro m_13 F_14 w hI
    obtain ⟨j, f, vv, rfl, sl_15, p_16, hf, hv, hS⟩ := hI
    rw [← K.Sl.puts sl_15]; clear sl_15
    cases f
    ·
      refine K.KW.seq ?_
      refine K.KW.seq ?_
      -- 23 :83
      refine K.KW.region ?_
      refine K.RW.qs [.pointer (some ⟨r_4, 0, none⟩)] (by kernel_rfl) ?_
      refine K.RW.q rfl rfl (K.QR.ld1 (v := .int .i64 6) rfl rfl (by kernel_rfl) ((hS.blk 2 rfl hg_6).cell rfl)) ?_
      refine K.RW.qs [.bool true, .bool true, .pointer (some ⟨r_4, 0, none⟩)] (by kernel_rfl) ?_
      refine K.RW.q rfl (by kernel_rfl) (K.QR.ld1 (v := .int .i64 6) rfl rfl (by kernel_rfl) ((hS.blk 2 rfl hg_6).cell rfl)) ?_
      refine K.RW.qs [.bool true, .bool true, .bool true, .int .i64 ((j : Nat) : Int), .pointer (some ⟨r_1, 2, none⟩)] (by kernel_rfl) ?_
      refine K.RW.q rfl (by kernel_rfl) (K.QR.ld1 (v := .slice m ma.length cm) rfl rfl (by kernel_rfl) ((hS.blk 3 rfl hg_3).cell rfl)) ?_
      refine K.RW.q rfl (by kernel_rfl) (K.QR.len (P := Try.prog) rfl rfl Try.underlying40) ?_
      by_cases h_17 : (((j : Nat) : Int) : Int) < (((ma.length : Nat) : Int) : Int)
      ·  -- yes
        refine K.RW.q rfl (by kernel_rfl) (K.QR.nice (v := .bool (decide ((((j : Nat) : Int) : Int) < (((ma.length : Nat) : Int) : Int)))) (by kernel_rfl) (congrArg Value.bool (decide_eq_true h_17))) ?_
        refine K.RW.qs [.bool true] (by kernel_rfl) ?_
        refine K.RW.nil ?_
        refine K.thn_normal ?_
        refine K.KW.ifT rfl ?_
        refine K.KW.skip ?_
        refine K.thn_normal ?_
        refine K.KW.seq ?_
        refine K.KW.block ?_
        refine K.KW.seq ?_
        -- 25 :84
        obtain ⟨b_18, of_19, rfl, _⟩ := (x3 _ (hS.pick [6])).at_ (by omega)
        refine K.KW.gdrawn [3, 6] hS (by kernel_rfl) ?_
        clear hS; intro w hS
        refine K.DW.q 0 (by kernel_rfl) rfl rfl (by kernel_rfl) rfl (fun w hS => K.QR.k (v := .pointer (some ⟨r_1, 2, none⟩)) (by kernel_rfl)) (hS.pick [3, 6]) ?_
        refine K.DW.q 1 (by kernel_rfl) rfl rfl (by kernel_rfl) rfl (fun w hS => K.QR.ld1 (v := .slice (some ⟨b_18, of_19, none⟩) ma.length cm) rfl rfl (by kernel_rfl) ((hS.blk 0 rfl hg_3).cell rfl)) (hS.pick [3, 6]) ?_
        refine K.DW.q 2 (by kernel_rfl) rfl rfl (by kernel_rfl) rfl (fun w hS => K.QR.k (v := .int .i64 ((j : Nat) : Int)) (by kernel_rfl)) (hS.pick [3, 6]) ?_
        refine K.DW.q 3 (by kernel_rfl) rfl rfl (by kernel_rfl) rfl (fun w hS => K.QR.ix (of_19 + j * 2) 2 rfl rfl rfl Try.underlying40 (by kernel_rfl) (by omega) (by first | (simp; done) | omega | (simp; omega))) (hS.pick [3, 6]) ?_
        refine K.DW.q 4 (by kernel_rfl) rfl rfl (by kernel_rfl) rfl (fun w hS => K.QR.k (v := .pointer (some ⟨b_18, of_19 + j * 2, none⟩)) (by kernel_rfl)) (hS.pick [3, 6]) ?_
        refine K.DW.q 5 (by kernel_rfl) rfl rfl (by kernel_rfl) rfl (fun w hS => K.QR.ld1 (v := .int .u32 ((ma.getD j p0).key)) rfl rfl (by kernel_rfl) ((x3 _ (hS.pick [1])).ld j (by omega) 0 _ rfl)) (hS.pick [3, 6]) ?_
        refine K.DW.l 6 rfl (by kernel_rfl) rfl (K.OW.q rfl (K.QR.k (v := .pointer (some ⟨r_4, 1, none⟩)) (by kernel_rfl)) ?_)
        refine ⟨.inl (hS.pick [3, 6]), ?_⟩
        refine K.DW.l 7 rfl (by kernel_rfl) rfl (K.OW.q rfl (K.QR.ld1 (v := .int .u32 key) rfl rfl (by kernel_rfl) ((hS.blk 2 rfl hg_6).cell rfl)) ?_)
        refine ⟨.inl (hS.pick [3, 6]), ?_⟩
        by_cases h_20 : ((ma.getD j p0).key : Int) = (key : Int)
        ·  -- yes
          refine K.DW.l 8 rfl (by kernel_rfl) rfl (K.OW.q rfl (K.QR.nice (v := .bool (((ma.getD j p0).key : Int) == (key : Int))) (by kernel_rfl) (congrArg Value.bool (beq_iff_eq.2 h_20))) ?_)
          refine ⟨.inl (hS.pick [3, 6]), ?_⟩
          refine K.DW.done (by kernel_rfl) ?_
          refine K.thn_normal ?_
          refine K.KW.ifT rfl ?_
          refine K.KW.seq ?_
          -- 26 :85
          refine K.KW.region ?_
          refine K.RW.qs [.bool true] (by kernel_rfl) ?_
          refine K.RW.nil ?_
          refine K.thn_normal ?_
          -- 27 :86
          refine K.KW.region ?_
          refine K.RW.qs [.pointer (some ⟨r_1, 2, none⟩)] (by kernel_rfl) ?_
          refine K.RW.q rfl rfl (K.QR.ld1 (v := .slice (some ⟨b_18, of_19, none⟩) ma.length cm) rfl rfl (by kernel_rfl) ((hS.blk 3 rfl hg_3).cell rfl)) ?_
          refine K.RW.qs [.int .i64 ((j : Nat) : Int)] (by kernel_rfl) ?_
          refine K.RW.q rfl rfl (K.QR.ix (of_19 + j * 2) 2 rfl rfl rfl Try.underlying40 (by kernel_rfl) (by omega) (by first | (simp; done) | omega | (simp; omega))) ?_
          refine K.RW.qs [.pointer (some ⟨b_18, of_19 + j * 2 + 1, none⟩)] (by kernel_rfl) ?_
          refine K.RW.q rfl rfl (K.QR.ld1 (v := .int .u32 ((ma.getD j p0).val)) rfl rfl (by kernel_rfl) ((x3 _ (hS.pick [6])).ld j (by omega) 1 _ rfl)) ?_
          refine K.RW.qs [.int .u32 ((ma.getD j p0).val)] (by kernel_rfl) ?_
          refine K.RW.nil ?_
          refine K.blk_normal ?_
          refine K.thn_normal ?_
          -- 24 :83
          refine K.KW.region ?_
          refine K.RW.qs [.int .i64 ((j : Nat) : Int)] (by kernel_rfl) ?_
          refine K.RW.q rfl rfl (K.QR.n64 ((((j : Nat) : Int) : Int) + (1 : Int)) ((j + 1 : Nat) : Int) (by kernel_rfl) (by omega)) ?_
          refine K.RW.qs [.int .i64 ((j + 1 : Nat) : Int)] (by kernel_rfl) ?_
          refine K.RW.nil ?_
          refine K.thn_normal ?_
          refine ⟨_, ?_, j + 1, true, (ma.getD j p0).val, rfl, ⟨by rfl, by rfl, by rfl, by rfl, by rfl, by rfl, by rfl, by rfl, by rfl, by rfl, trivial⟩, (by omega), ((anyT_next (d := p0) hf (by omega)).trans (any_y2 _ (by assumption))), (last_y (by omega) (by assumption)), hS.pick [0, 1, 2, 3, 4, 5, 6, 7]⟩
          omega
        ·  -- no
          refine K.DW.l 8 rfl (by kernel_rfl) rfl (K.OW.q rfl (K.QR.nice (v := .bool (((ma.getD j p0).key : Int) == (key : Int))) (by kernel_rfl) (congrArg Value.bool (beq_eq_false_iff_ne.2 h_20))) ?_)
          refine ⟨.inl (hS.pick [3, 6]), ?_⟩
          refine K.DW.done (by kernel_rfl) ?_
          refine K.thn_normal ?_
          refine K.KW.ifF rfl ?_
          refine K.KW.skip ?_
          refine K.blk_normal ?_
          refine K.thn_normal ?_
          -- 24 :83
          refine K.KW.region ?_
          refine K.RW.qs [.int .i64 ((j : Nat) : Int)] (by kernel_rfl) ?_
          refine K.RW.q rfl rfl (K.QR.n64 ((((j : Nat) : Int) : Int) + (1 : Int)) ((j + 1 : Nat) : Int) (by kernel_rfl) (by omega)) ?_
          refine K.RW.qs [.int .i64 ((j + 1 : Nat) : Int)] (by kernel_rfl) ?_
          refine K.RW.nil ?_
          refine K.thn_normal ?_
          refine ⟨_, ?_, j + 1, false, vv, rfl, ⟨by rfl, by rfl, by rfl, by rfl, by rfl, by rfl, by rfl, by rfl, by rfl, by rfl, trivial⟩, (by omega), ((anyT_next (d := p0) hf (by omega)).trans (any_n2 _ (by assumption))), (last_n hv (by omega) (by assumption)), hS.pick [0, 1, 2, 3, 4, 5, 6, 7]⟩
          omega
      ·  -- no
        refine K.RW.q rfl (by kernel_rfl) (K.QR.nice (v := .bool (decide ((((j : Nat) : Int) : Int) < (((ma.length : Nat) : Int) : Int)))) (by kernel_rfl) (congrArg Value.bool (decide_eq_false h_17))) ?_
        refine K.RW.qs [.bool false] (by kernel_rfl) ?_
        refine K.RW.nil ?_
        refine K.thn_normal ?_
        refine K.KW.ifF rfl ?_
        refine K.KW.exit ?_
        refine K.thn_exit ?_
        refine K.thn_exit ?_
        refine K.blk_hit ?_
        refine K.thn_normal ?_
        refine K.KW.seq ?_
        refine K.KW.seq ?_
        -- 28 :89
        refine K.KW.region ?_
        refine K.RW.qs [.pointer (some ⟨r_4, 0, none⟩)] (by kernel_rfl) ?_
        refine K.RW.q rfl rfl (K.QR.ld1 (v := .int .i64 6) rfl rfl (by kernel_rfl) ((hS.blk 2 rfl hg_6).cell rfl)) ?_
        refine K.RW.qs [.bool false, .bool false, .pointer (some ⟨r_4, 0, none⟩)] (by kernel_rfl) ?_
        refine K.RW.q rfl (by kernel_rfl) (K.QR.ld1 (v := .int .i64 6) rfl rfl (by kernel_rfl) ((hS.blk 2 rfl hg_6).cell rfl)) ?_
        refine K.RW.qs [.bool false, .bool false] (by kernel_rfl) ?_
        refine K.RW.nil ?_
        refine K.thn_normal ?_
        refine K.KW.ifF rfl ?_
        refine K.KW.skip ?_
        refine K.thn_normal ?_
        refine K.KW.seq ?_
        refine K.KW.seq ?_
        -- 30 :92
        refine K.KW.region ?_
        refine K.RW.qs [.bool false, .bool false] (by kernel_rfl) ?_
        refine K.RW.skip rfl (by kernel_rfl) ?_
        refine K.RW.skip rfl (by kernel_rfl) ?_
        refine K.RW.skip rfl (by kernel_rfl) ?_
        refine K.RW.qs [.bool false, .bool false] (by kernel_rfl) ?_
        refine K.RW.skip rfl (by kernel_rfl) ?_
        refine K.RW.skip rfl (by kernel_rfl) ?_
        refine K.RW.skip rfl (by kernel_rfl) ?_
        refine K.RW.qs [.bool false] (by kernel_rfl) ?_
        refine K.RW.nil ?_
        refine K.thn_normal ?_
        refine K.KW.ifF rfl ?_
        refine K.KW.skip ?_
        refine K.thn_normal ?_
        refine K.KW.seq ?_
        refine K.KW.seq ?_
        -- 32 :95
        refine K.KW.region ?_
        refine K.RW.qs [.bool false, .bool true, .bool true, .pointer (some ⟨r_4, 0, none⟩)] (by kernel_rfl) ?_
        refine K.RW.q rfl (by kernel_rfl) (K.QR.ld1 (v := .int .i64 6) rfl rfl (by kernel_rfl) ((hS.blk 2 rfl hg_6).cell rfl)) ?_
        refine K.RW.qs [.bool true, .bool true, .bool true, .pointer (some ⟨r_4, 0, none⟩)] (by kernel_rfl) ?_
        refine K.RW.q rfl (by kernel_rfl) (K.QR.ld1 (v := .int .i64 6) rfl rfl (by kernel_rfl) ((hS.blk 2 rfl hg_6).cell rfl)) ?_
        refine K.RW.qs [.bool false, .bool false] (by kernel_rfl) ?_
        refine K.RW.nil ?_
        refine K.thn_normal ?_
        refine K.KW.ifF rfl ?_
        refine K.KW.skip ?_
        refine K.thn_normal ?_
        refine K.KW.seq ?_
        refine K.KW.seq ?_
        -- 34 :98
        refine K.KW.region ?_
        refine K.RW.qs [.pointer (some ⟨r_4, 0, none⟩)] (by kernel_rfl) ?_
        refine K.RW.q rfl rfl (K.QR.ld1 (v := .int .i64 6) rfl rfl (by kernel_rfl) ((hS.blk 2 rfl hg_6).cell rfl)) ?_
        refine K.RW.qs [.bool false] (by kernel_rfl) ?_
        refine K.RW.nil ?_
        refine K.thn_normal ?_
        refine K.KW.ifF rfl ?_
        refine K.KW.skip ?_
        refine K.thn_normal ?_
        refine K.KW.seq ?_
        -- 37 :102
        refine K.KW.region ?_
        refine K.RW.qs [.pointer (some ⟨r_1, 2, none⟩)] (by kernel_rfl) ?_
        refine K.RW.q rfl rfl (K.QR.ld1 (v := .slice m ma.length cm) rfl rfl (by kernel_rfl) ((hS.blk 3 rfl hg_3).cell rfl)) ?_
        refine K.RW.qs [.pointer (some ⟨r_4, 1, none⟩)] (by kernel_rfl) ?_
        refine K.RW.q rfl rfl (K.QR.ld1 (v := .int .u32 key) rfl rfl (by kernel_rfl) ((hS.blk 2 rfl hg_6).cell rfl)) ?_
        refine K.RW.qs [.pointer (some ⟨r_4, 2, none⟩)] (by kernel_rfl) ?_
        refine K.RW.q rfl rfl (K.QR.ld1 (v := .int .u32 val) rfl rfl (by kernel_rfl) ((hS.blk 2 rfl hg_6).cell rfl)) ?_
        refine K.RW.q rfl rfl (K.QR.bd [(0, .int .u32 key), (1, .int .u32 val)] [.int .u32 key, .int .u32 val] rfl rfl (by kernel_rfl)) ?_
        refine K.RW.qs [.pointer (some ⟨r_4, 0, none⟩)] (by kernel_rfl) ?_
        refine K.RW.q rfl rfl (K.QR.ld1 (v := .int .i64 6) rfl rfl (by kernel_rfl) ((hS.blk 2 rfl hg_6).cell rfl)) ?_
        refine K.RW.qs [.bool true] (by kernel_rfl) ?_
        refine K.RW.l rfl (K.OW.gcall hS [6] [0, 1, 2, 3, 4, 5, 7] [.slice m ma.length cm, .agg #[.int .u32 key, .int .u32 val], .bool true] (prsT_ok _ _ _ ma key val (by omega) _ x3) ?_)
        clear hS; rintro _ _ w ⟨r_21, c_22, l_23, rfl, rfl, o_24⟩ hS
        replace hS : K.Sat w0 [g3, l_23, g_11, g_8, g_5, g_2, g1, g2, fr] w := hS
        refine K.RW.qs [.pointer (some ⟨r_1, 2, none⟩)] (by kernel_rfl) ?_
        refine K.RW.l rfl (K.OW.gst 5 [.slice r_21 ((keysR PairM.key key ⟨key, val⟩ true ma).length) c_22] [.slice q qa.length cq, .slice s sa.length cs, .slice r_21 ((keysR PairM.key key ⟨key, val⟩ true ma).length) c_22] hS hg_3 ?_)
        clear hS; intro w g_25 hg_26 hS
        replace hS : K.Sat w0 [g3, l_23, g_11, g_8, g_5, g_25, g1, g2, fr] w := hS
        refine K.RW.nil ?_
        refine K.thn_normal ?_
        refine K.KW.seq ?_
        -- 38 :103
        refine K.KW.region ?_
        refine K.RW.q rfl rfl (K.QR.ldN [.slice q qa.length cq, .slice s sa.length cs, .slice r_21 ((keysR PairM.key key ⟨key, val⟩ true ma).length) c_22] rfl rfl (by kernel_rfl) (by kernel_rfl) (K.cells (K.cl ((hS.blk 5 rfl hg_26).cell rfl) (K.cl ((hS.blk 5 rfl hg_26).cell rfl) (K.cl ((hS.blk 5 rfl hg_26).cell rfl) K.cl0))))) ?_
        refine K.RW.qs [.int .u32 vv] (by kernel_rfl) ?_
        refine K.RW.q rfl rfl (K.QR.bd [(0, .int .i64 1), (1, .int .u32 vv)] [.int .i64 1, .int .u32 vv] rfl rfl (by kernel_rfl)) ?_
        refine K.RW.l rfl (K.OW.gst 3 [.slice q qa.length cq, .slice s sa.length cs, .slice r_21 ((keysR PairM.key key ⟨key, val⟩ true ma).length) c_22] [.slice q qa.length cq, .slice s sa.length cs, .slice r_21 ((keysR PairM.key key ⟨key, val⟩ true ma).length) c_22] hS hg_9 ?_)
        clear hS; intro w g_27 hg_28 hS
        replace hS : K.Sat w0 [g3, l_23, g_11, g_27, g_5, g_25, g1, g2, fr] w := hS
        refine K.RW.l rfl (K.OW.gst 2 [.int .i64 1, .int .u32 vv] [.int .i64 1, .int .u32 vv] hS hg_12 ?_)
        clear hS; intro w g_29 hg_30 hS
        replace hS : K.Sat w0 [g3, l_23, g_29, g_27, g_5, g_25, g1, g2, fr] w := hS
        refine K.RW.nil ?_
        refine K.thn_normal ?_
        refine K.KW.ret ?_
        have hany : anyT PairM.key key ma = false := by have h := hf; rw [List.take_of_length_le (by omega)] at h; exact h
        have hlast : vv = (lastT PairM.key key p0 ma).val := by have h := hv; rw [List.take_of_length_le (by omega)] at h; exact h
        have hA : applyT ⟨qa, sa, ma⟩ 6 key val = (⟨qa, sa, (keysR PairM.key key ⟨key, val⟩ true ma)⟩, 1, vv) := by rw [apM hr2 (by decide), hany, ← hlast]; rfl
        rw [hA]
        refine ⟨.inr rfl, rfl, (.tuple #[.agg #[.slice q qa.length cq, .slice s sa.length cs, .slice r_21 ((keysR PairM.key key ⟨key, val⟩ true ma).length) c_22], .agg #[.int .i64 1, .int .u32 vv]]), K.resAt (rs := [.cell 4 42, .cell 5 52]) [.agg #[.slice q qa.length cq, .slice s sa.length cs, .slice r_21 ((keysR PairM.key key ⟨key, val⟩ true ma).length) c_22], .agg #[.int .i64 1, .int .u32 vv]] rfl ⟨⟨_, rfl, K.lvN [.slice q qa.length cq, .slice s sa.length cs, .slice r_21 ((keysR PairM.key key ⟨key, val⟩ true ma).length) c_22] (by kernel_rfl) (by kernel_rfl) (K.cells (K.cl ((hS.blk 3 rfl hg_28).cell rfl) (K.cl ((hS.blk 3 rfl hg_28).cell rfl) (K.cl ((hS.blk 3 rfl hg_28).cell rfl) K.cl0))))⟩, ⟨_, rfl, K.lvN [.int .i64 1, .int .u32 vv] (by kernel_rfl) (by kernel_rfl) (K.cells (K.cl ((hS.blk 2 rfl hg_30).cell rfl) (K.cl ((hS.blk 2 rfl hg_30).cell rfl) K.cl0)))⟩, trivial⟩, [g1, g2, l_23], ?_, hS.pick [6, 7, 1, 8]⟩
        exact ⟨q, cq, s, cs, r_21, c_22, g1, g2, l_23, rfl, rfl, x1, x2, rdP_own o_24 rfl, hc⟩
    ·
      refine K.KW.seq ?_
      refine K.KW.seq ?_
      -- 23 :83
      refine K.KW.region ?_
      refine K.RW.qs [.pointer (some ⟨r_4, 0, none⟩)] (by kernel_rfl) ?_
      refine K.RW.q rfl rfl (K.QR.ld1 (v := .int .i64 6) rfl rfl (by kernel_rfl) ((hS.blk 2 rfl hg_6).cell rfl)) ?_
      refine K.RW.qs [.bool true, .bool true, .pointer (some ⟨r_4, 0, none⟩)] (by kernel_rfl) ?_
      refine K.RW.q rfl (by kernel_rfl) (K.QR.ld1 (v := .int .i64 6) rfl rfl (by kernel_rfl) ((hS.blk 2 rfl hg_6).cell rfl)) ?_
      refine K.RW.qs [.bool true, .bool true, .bool true, .int .i64 ((j : Nat) : Int), .pointer (some ⟨r_1, 2, none⟩)] (by kernel_rfl) ?_
      refine K.RW.q rfl (by kernel_rfl) (K.QR.ld1 (v := .slice m ma.length cm) rfl rfl (by kernel_rfl) ((hS.blk 3 rfl hg_3).cell rfl)) ?_
      refine K.RW.q rfl (by kernel_rfl) (K.QR.len (P := Try.prog) rfl rfl Try.underlying40) ?_
      by_cases h_31 : (((j : Nat) : Int) : Int) < (((ma.length : Nat) : Int) : Int)
      ·  -- yes
        refine K.RW.q rfl (by kernel_rfl) (K.QR.nice (v := .bool (decide ((((j : Nat) : Int) : Int) < (((ma.length : Nat) : Int) : Int)))) (by kernel_rfl) (congrArg Value.bool (decide_eq_true h_31))) ?_
        refine K.RW.qs [.bool true] (by kernel_rfl) ?_
        refine K.RW.nil ?_
        refine K.thn_normal ?_
        refine K.KW.ifT rfl ?_
        refine K.KW.skip ?_
        refine K.thn_normal ?_
        refine K.KW.seq ?_
        refine K.KW.block ?_
        refine K.KW.seq ?_
        -- 25 :84
        obtain ⟨b_32, of_33, rfl, _⟩ := (x3 _ (hS.pick [6])).at_ (by omega)
        refine K.KW.gdrawn [3, 6] hS (by kernel_rfl) ?_
        clear hS; intro w hS
        refine K.DW.q 0 (by kernel_rfl) rfl rfl (by kernel_rfl) rfl (fun w hS => K.QR.k (v := .pointer (some ⟨r_1, 2, none⟩)) (by kernel_rfl)) (hS.pick [3, 6]) ?_
        refine K.DW.q 1 (by kernel_rfl) rfl rfl (by kernel_rfl) rfl (fun w hS => K.QR.ld1 (v := .slice (some ⟨b_32, of_33, none⟩) ma.length cm) rfl rfl (by kernel_rfl) ((hS.blk 0 rfl hg_3).cell rfl)) (hS.pick [3, 6]) ?_
        refine K.DW.q 2 (by kernel_rfl) rfl rfl (by kernel_rfl) rfl (fun w hS => K.QR.k (v := .int .i64 ((j : Nat) : Int)) (by kernel_rfl)) (hS.pick [3, 6]) ?_
        refine K.DW.q 3 (by kernel_rfl) rfl rfl (by kernel_rfl) rfl (fun w hS => K.QR.ix (of_33 + j * 2) 2 rfl rfl rfl Try.underlying40 (by kernel_rfl) (by omega) (by first | (simp; done) | omega | (simp; omega))) (hS.pick [3, 6]) ?_
        refine K.DW.q 4 (by kernel_rfl) rfl rfl (by kernel_rfl) rfl (fun w hS => K.QR.k (v := .pointer (some ⟨b_32, of_33 + j * 2, none⟩)) (by kernel_rfl)) (hS.pick [3, 6]) ?_
        refine K.DW.q 5 (by kernel_rfl) rfl rfl (by kernel_rfl) rfl (fun w hS => K.QR.ld1 (v := .int .u32 ((ma.getD j p0).key)) rfl rfl (by kernel_rfl) ((x3 _ (hS.pick [1])).ld j (by omega) 0 _ rfl)) (hS.pick [3, 6]) ?_
        refine K.DW.l 6 rfl (by kernel_rfl) rfl (K.OW.q rfl (K.QR.k (v := .pointer (some ⟨r_4, 1, none⟩)) (by kernel_rfl)) ?_)
        refine ⟨.inl (hS.pick [3, 6]), ?_⟩
        refine K.DW.l 7 rfl (by kernel_rfl) rfl (K.OW.q rfl (K.QR.ld1 (v := .int .u32 key) rfl rfl (by kernel_rfl) ((hS.blk 2 rfl hg_6).cell rfl)) ?_)
        refine ⟨.inl (hS.pick [3, 6]), ?_⟩
        by_cases h_34 : ((ma.getD j p0).key : Int) = (key : Int)
        ·  -- yes
          refine K.DW.l 8 rfl (by kernel_rfl) rfl (K.OW.q rfl (K.QR.nice (v := .bool (((ma.getD j p0).key : Int) == (key : Int))) (by kernel_rfl) (congrArg Value.bool (beq_iff_eq.2 h_34))) ?_)
          refine ⟨.inl (hS.pick [3, 6]), ?_⟩
          refine K.DW.done (by kernel_rfl) ?_
          refine K.thn_normal ?_
          refine K.KW.ifT rfl ?_
          refine K.KW.seq ?_
          -- 26 :85
          refine K.KW.region ?_
          refine K.RW.qs [.bool true] (by kernel_rfl) ?_
          refine K.RW.nil ?_
          refine K.thn_normal ?_
          -- 27 :86
          refine K.KW.region ?_
          refine K.RW.qs [.pointer (some ⟨r_1, 2, none⟩)] (by kernel_rfl) ?_
          refine K.RW.q rfl rfl (K.QR.ld1 (v := .slice (some ⟨b_32, of_33, none⟩) ma.length cm) rfl rfl (by kernel_rfl) ((hS.blk 3 rfl hg_3).cell rfl)) ?_
          refine K.RW.qs [.int .i64 ((j : Nat) : Int)] (by kernel_rfl) ?_
          refine K.RW.q rfl rfl (K.QR.ix (of_33 + j * 2) 2 rfl rfl rfl Try.underlying40 (by kernel_rfl) (by omega) (by first | (simp; done) | omega | (simp; omega))) ?_
          refine K.RW.qs [.pointer (some ⟨b_32, of_33 + j * 2 + 1, none⟩)] (by kernel_rfl) ?_
          refine K.RW.q rfl rfl (K.QR.ld1 (v := .int .u32 ((ma.getD j p0).val)) rfl rfl (by kernel_rfl) ((x3 _ (hS.pick [6])).ld j (by omega) 1 _ rfl)) ?_
          refine K.RW.qs [.int .u32 ((ma.getD j p0).val)] (by kernel_rfl) ?_
          refine K.RW.nil ?_
          refine K.blk_normal ?_
          refine K.thn_normal ?_
          -- 24 :83
          refine K.KW.region ?_
          refine K.RW.qs [.int .i64 ((j : Nat) : Int)] (by kernel_rfl) ?_
          refine K.RW.q rfl rfl (K.QR.n64 ((((j : Nat) : Int) : Int) + (1 : Int)) ((j + 1 : Nat) : Int) (by kernel_rfl) (by omega)) ?_
          refine K.RW.qs [.int .i64 ((j + 1 : Nat) : Int)] (by kernel_rfl) ?_
          refine K.RW.nil ?_
          refine K.thn_normal ?_
          refine ⟨_, ?_, j + 1, true, (ma.getD j p0).val, rfl, ⟨by rfl, by rfl, by rfl, by rfl, by rfl, by rfl, by rfl, by rfl, by rfl, by rfl, trivial⟩, (by omega), ((anyT_next (d := p0) hf (by omega)).trans (any_y2 _ (by assumption))), (last_y (by omega) (by assumption)), hS.pick [0, 1, 2, 3, 4, 5, 6, 7]⟩
          omega
        ·  -- no
          refine K.DW.l 8 rfl (by kernel_rfl) rfl (K.OW.q rfl (K.QR.nice (v := .bool (((ma.getD j p0).key : Int) == (key : Int))) (by kernel_rfl) (congrArg Value.bool (beq_eq_false_iff_ne.2 h_34))) ?_)
          refine ⟨.inl (hS.pick [3, 6]), ?_⟩
          refine K.DW.done (by kernel_rfl) ?_
          refine K.thn_normal ?_
          refine K.KW.ifF rfl ?_
          refine K.KW.skip ?_
          refine K.blk_normal ?_
          refine K.thn_normal ?_
          -- 24 :83
          refine K.KW.region ?_
          refine K.RW.qs [.int .i64 ((j : Nat) : Int)] (by kernel_rfl) ?_
          refine K.RW.q rfl rfl (K.QR.n64 ((((j : Nat) : Int) : Int) + (1 : Int)) ((j + 1 : Nat) : Int) (by kernel_rfl) (by omega)) ?_
          refine K.RW.qs [.int .i64 ((j + 1 : Nat) : Int)] (by kernel_rfl) ?_
          refine K.RW.nil ?_
          refine K.thn_normal ?_
          refine ⟨_, ?_, j + 1, true, vv, rfl, ⟨by rfl, by rfl, by rfl, by rfl, by rfl, by rfl, by rfl, by rfl, by rfl, by rfl, trivial⟩, (by omega), ((anyT_next (d := p0) hf (by omega)).trans (any_n2 _ (by assumption))), (last_n hv (by omega) (by assumption)), hS.pick [0, 1, 2, 3, 4, 5, 6, 7]⟩
          omega
      ·  -- no
        refine K.RW.q rfl (by kernel_rfl) (K.QR.nice (v := .bool (decide ((((j : Nat) : Int) : Int) < (((ma.length : Nat) : Int) : Int)))) (by kernel_rfl) (congrArg Value.bool (decide_eq_false h_31))) ?_
        refine K.RW.qs [.bool false] (by kernel_rfl) ?_
        refine K.RW.nil ?_
        refine K.thn_normal ?_
        refine K.KW.ifF rfl ?_
        refine K.KW.exit ?_
        refine K.thn_exit ?_
        refine K.thn_exit ?_
        refine K.blk_hit ?_
        refine K.thn_normal ?_
        refine K.KW.seq ?_
        refine K.KW.seq ?_
        -- 28 :89
        refine K.KW.region ?_
        refine K.RW.qs [.pointer (some ⟨r_4, 0, none⟩)] (by kernel_rfl) ?_
        refine K.RW.q rfl rfl (K.QR.ld1 (v := .int .i64 6) rfl rfl (by kernel_rfl) ((hS.blk 2 rfl hg_6).cell rfl)) ?_
        refine K.RW.qs [.bool false, .bool false, .pointer (some ⟨r_4, 0, none⟩)] (by kernel_rfl) ?_
        refine K.RW.q rfl (by kernel_rfl) (K.QR.ld1 (v := .int .i64 6) rfl rfl (by kernel_rfl) ((hS.blk 2 rfl hg_6).cell rfl)) ?_
        refine K.RW.qs [.bool false, .bool false] (by kernel_rfl) ?_
        refine K.RW.nil ?_
        refine K.thn_normal ?_
        refine K.KW.ifF rfl ?_
        refine K.KW.skip ?_
        refine K.thn_normal ?_
        refine K.KW.seq ?_
        refine K.KW.seq ?_
        -- 30 :92
        refine K.KW.region ?_
        refine K.RW.qs [.bool true, .bool true, .pointer (some ⟨r_4, 0, none⟩)] (by kernel_rfl) ?_
        refine K.RW.q rfl (by kernel_rfl) (K.QR.ld1 (v := .int .i64 6) rfl rfl (by kernel_rfl) ((hS.blk 2 rfl hg_6).cell rfl)) ?_
        refine K.RW.qs [.bool true, .bool true, .bool true, .pointer (some ⟨r_4, 0, none⟩)] (by kernel_rfl) ?_
        refine K.RW.q rfl (by kernel_rfl) (K.QR.ld1 (v := .int .i64 6) rfl rfl (by kernel_rfl) ((hS.blk 2 rfl hg_6).cell rfl)) ?_
        refine K.RW.qs [.bool true, .bool true] (by kernel_rfl) ?_
        refine K.RW.nil ?_
        refine K.thn_normal ?_
        refine K.KW.ifT rfl ?_
        refine K.KW.seq ?_
        -- 31 :93
        refine K.KW.region ?_
        refine K.RW.q rfl rfl (K.QR.ldN [.slice q qa.length cq, .slice s sa.length cs, .slice m ma.length cm] rfl rfl (by kernel_rfl) (by kernel_rfl) (K.cells (K.cl ((hS.blk 3 rfl hg_3).cell rfl) (K.cl ((hS.blk 3 rfl hg_3).cell rfl) (K.cl ((hS.blk 3 rfl hg_3).cell rfl) K.cl0))))) ?_
        refine K.RW.qs [.int .u32 vv] (by kernel_rfl) ?_
        refine K.RW.q rfl rfl (K.QR.bd [(0, .int .i64 3), (1, .int .u32 vv)] [.int .i64 3, .int .u32 vv] rfl rfl (by kernel_rfl)) ?_
        refine K.RW.l rfl (K.OW.gst 1 [.slice q qa.length cq, .slice s sa.length cs, .slice m ma.length cm] [.slice q qa.length cq, .slice s sa.length cs, .slice m ma.length cm] hS hg_9 ?_)
        clear hS; intro w g_35 hg_36 hS
        replace hS : K.Sat w0 [g_11, g_35, g_5, g_2, g1, g2, g3, fr] w := hS
        refine K.RW.l rfl (K.OW.gst 0 [.int .i64 3, .int .u32 vv] [.int .i64 3, .int .u32 vv] hS hg_12 ?_)
        clear hS; intro w g_37 hg_38 hS
        replace hS : K.Sat w0 [g_37, g_35, g_5, g_2, g1, g2, g3, fr] w := hS
        refine K.RW.nil ?_
        refine K.thn_normal ?_
        refine K.KW.ret ?_
        refine K.thn_ret ?_
        have hany : anyT PairM.key key ma = true := by have h := hf; rw [List.take_of_length_le (by omega)] at h; exact h
        have hlast : vv = (lastT PairM.key key p0 ma).val := by have h := hv; rw [List.take_of_length_le (by omega)] at h; exact h
        have hA : applyT ⟨qa, sa, ma⟩ 6 key val = (⟨qa, sa, ma⟩, 3, vv) := by rw [apM hr2 (by decide), hany, ← hlast]; rfl
        rw [hA]
        refine ⟨.inr rfl, rfl, (.tuple #[.agg #[.slice q qa.length cq, .slice s sa.length cs, .slice m ma.length cm], .agg #[.int .i64 3, .int .u32 vv]]), K.resAt (rs := [.cell 4 42, .cell 5 52]) [.agg #[.slice q qa.length cq, .slice s sa.length cs, .slice m ma.length cm], .agg #[.int .i64 3, .int .u32 vv]] rfl ⟨⟨_, rfl, K.lvN [.slice q qa.length cq, .slice s sa.length cs, .slice m ma.length cm] (by kernel_rfl) (by kernel_rfl) (K.cells (K.cl ((hS.blk 1 rfl hg_36).cell rfl) (K.cl ((hS.blk 1 rfl hg_36).cell rfl) (K.cl ((hS.blk 1 rfl hg_36).cell rfl) K.cl0))))⟩, ⟨_, rfl, K.lvN [.int .i64 3, .int .u32 vv] (by kernel_rfl) (by kernel_rfl) (K.cells (K.cl ((hS.blk 0 rfl hg_38).cell rfl) (K.cl ((hS.blk 0 rfl hg_38).cell rfl) K.cl0)))⟩, trivial⟩, [g1, g2, g3], ?_, hS.pick [4, 5, 6, 7]⟩
        exact ⟨q, cq, s, cs, m, cm, g1, g2, g3, rfl, rfl, x1, x2, x3, hc⟩

set_option maxHeartbeats 1000000 in
set_option maxRecDepth 100000 in
theorem rapply7_ok (w0 : World) (q s m : Option Addr) (cq cs cm : Nat) (qa sa : List Int) (ma : List PairM) (key val : Int) (h1 : qa.length ≤ 1000000) (h2 : sa.length ≤ 1000000) (h3 : ma.length ≤ 1000000) (hr1 : rising sa) (hr2 : rising (keysP ma)) (hc : qa.length ≤ cq) (g1 : K.Cs) (x1 : ∀ w, K.Sat w0 [g1] w → K.RowE w q qa.length 1 (fun i => cU32 (qa.getD i 0))) (g2 : K.Cs) (x2 : ∀ w, K.Sat w0 [g2] w → K.RowE w s sa.length 1 (fun i => cU32 (sa.getD i 0))) (g3 : K.Cs) (x3 : ∀ w, K.Sat w0 [g3] w → K.RowE w m ma.length 2 (fun i => cPair (ma.getD i p0))) :
    K.GC Try.prog w0 33 #[.agg #[.slice q qa.length cq, .slice s sa.length cs, .slice m ma.length cm], .agg #[.int .i64 7, .int .u32 key, .int .u32 val]] [g1, g2, g3] (ApR w0 (applyT ⟨qa, sa, ma⟩ 7 key val)) := by
  refine K.GC.mk (n := 192) Try.func33 rfl rfl [.agg #[.slice q qa.length cq, .slice s sa.length cs, .slice m ma.length cm], .agg #[.int .i64 7, .int .u32 key, .int .u32 val]] rfl rfl ?_
  intro fr w hS
  replace hS : K.Sat w0 [g1, g2, g3, fr] w := hS
  refine K.KW.seq ?_
  -- 0 :60
  refine K.KW.region ?_
  refine K.RW.l rfl (K.OW.gnew 42 [.slice q qa.length cq, .slice s sa.length cs, .slice m ma.length cm] hS ?_)
  clear hS; intro w r_1 g_2 hg_3 hS
  refine K.RW.l rfl (K.OW.gnew 45 [.int .i64 7, .int .u32 key, .int .u32 val] hS ?_)
  clear hS; intro w r_4 g_5 hg_6 hS
  refine K.RW.l rfl (K.OW.gnew 42 [.slice none 0 0, .slice none 0 0, .slice none 0 0] hS ?_)
  clear hS; intro w r_7 g_8 hg_9 hS
  refine K.RW.l rfl (K.OW.gnew 52 [.int .i64 0, .int .u32 0] hS ?_)
  clear hS; intro w r_10 g_11 hg_12 hS
  refine K.RW.nil ?_
  refine K.thn_normal ?_
  refine K.KW.seq ?_
  refine K.KW.seq ?_
  -- 1 :61
  refine K.KW.region ?_
  refine K.RW.qs [.pointer (some ⟨r_4, 0, none⟩)] (by kernel_rfl) ?_
  refine K.RW.q rfl rfl (K.QR.ld1 (v := .int .i64 7) rfl rfl (by kernel_rfl) ((hS.blk 2 rfl hg_6).cell rfl)) ?_
  refine K.RW.qs [.bool false] (by kernel_rfl) ?_
  refine K.RW.nil ?_
  refine K.thn_normal ?_
  refine K.KW.ifF rfl ?_
  refine K.KW.skip ?_
  refine K.thn_normal ?_
  refine K.KW.seq ?_
  refine K.KW.seq ?_
  -- 10 :70
  refine K.KW.region ?_
  refine K.RW.qs [.pointer (some ⟨r_4, 0, none⟩)] (by kernel_rfl) ?_
  refine K.RW.q rfl rfl (K.QR.ld1 (v := .int .i64 7) rfl rfl (by kernel_rfl) ((hS.blk 2 rfl hg_6).cell rfl)) ?_
  refine K.RW.qs [.bool false, .bool false] (by kernel_rfl) ?_
  refine K.RW.skip rfl (by kernel_rfl) ?_
  refine K.RW.skip rfl (by kernel_rfl) ?_
  refine K.RW.skip rfl (by kernel_rfl) ?_
  refine K.RW.skip rfl (by kernel_rfl) ?_
  refine K.RW.qs [.bool false] (by kernel_rfl) ?_
  refine K.RW.nil ?_
  refine K.thn_normal ?_
  refine K.KW.ifF rfl ?_
  refine K.KW.skip ?_
  refine K.thn_normal ?_
  refine K.KW.seq ?_
  refine K.KW.seq ?_
  -- 12 :73
  refine K.KW.region ?_
  refine K.RW.qs [.pointer (some ⟨r_4, 0, none⟩)] (by kernel_rfl) ?_
  refine K.RW.q rfl rfl (K.QR.ld1 (v := .int .i64 7) rfl rfl (by kernel_rfl) ((hS.blk 2 rfl hg_6).cell rfl)) ?_
  refine K.RW.qs [.bool false] (by kernel_rfl) ?_
  refine K.RW.nil ?_
  refine K.thn_normal ?_
  refine K.KW.ifF rfl ?_
  refine K.KW.skip ?_
  refine K.thn_normal ?_
  refine K.KW.seq ?_
  -- 16 :78
  refine K.KW.region ?_
  refine K.RW.qs [.bool false] (by kernel_rfl) ?_
  refine K.RW.nil ?_
  refine K.thn_normal ?_
  refine K.KW.seq ?_
  refine K.KW.seq ?_
  -- 17 :79
  refine K.KW.region ?_
  refine K.RW.qs [.int .i64 0] (by kernel_rfl) ?_
  refine K.RW.nil ?_
  refine K.thn_normal ?_
  refine K.KW.block ?_
  refine K.KW.unr 0 ?_
  refine K.Unr.zero ?_
  refine K.KW.seq ?_
  refine K.KW.seq ?_
  -- 18 :79
  refine K.KW.region ?_
  refine K.RW.qs [.pointer (some ⟨r_4, 0, none⟩)] (by kernel_rfl) ?_
  refine K.RW.q rfl rfl (K.QR.ld1 (v := .int .i64 7) rfl rfl (by kernel_rfl) ((hS.blk 2 rfl hg_6).cell rfl)) ?_
  refine K.RW.qs [.bool true, .bool true, .pointer (some ⟨r_4, 0, none⟩)] (by kernel_rfl) ?_
  refine K.RW.q rfl (by kernel_rfl) (K.QR.ld1 (v := .int .i64 7) rfl rfl (by kernel_rfl) ((hS.blk 2 rfl hg_6).cell rfl)) ?_
  refine K.RW.qs [.bool false, .bool false, .bool false] (by kernel_rfl) ?_
  refine K.RW.skip rfl (by kernel_rfl) ?_
  refine K.RW.skip rfl (by kernel_rfl) ?_
  refine K.RW.skip rfl (by kernel_rfl) ?_
  refine K.RW.skip rfl (by kernel_rfl) ?_
  refine K.RW.skip rfl (by kernel_rfl) ?_
  refine K.RW.qs [.bool false] (by kernel_rfl) ?_
  refine K.RW.nil ?_
  refine K.thn_normal ?_
  refine K.KW.ifF rfl ?_
  refine K.KW.exit ?_
  refine K.thn_exit ?_
  refine K.thn_exit ?_
  refine K.blk_hit ?_
  refine K.thn_normal ?_
  refine K.KW.seq ?_
  -- 21 :82
  refine K.KW.region ?_
  refine K.RW.qs [.int .u32 0] (by kernel_rfl) ?_
  refine K.RW.nil ?_
  refine K.thn_normal ?_
  refine K.KW.seq ?_
  refine K.KW.seq ?_
  -- 22 :83
  refine K.KW.region ?_
  refine K.RW.qs [.int .i64 0] (by kernel_rfl) ?_
  refine K.RW.nil ?_
  refine K.thn_normal ?_
  refine K.KW.block ?_
  refine K.KW.loop (fun m_ F_ w_ => ∃ (j : Nat) (f : Bool) (vv : Int), m_ = ma.length - j ∧ K.Sl F_ [(0, .agg #[.slice q qa.length cq, .slice s sa.length cs, .slice m ma.length cm]), (1, .agg #[.int .i64 7, .int .u32 key, .int .u32 val]), (2, .pointer (some ⟨r_1, 0, none⟩)), (3, .pointer (some ⟨r_4, 0, none⟩)), (4, .pointer (some ⟨r_7, 0, none⟩)), (5, .pointer (some ⟨r_10, 0, none⟩)), (9, .bool f), (11, .int .u32 vv), (12, .int .i64 ((j : Nat) : Int)), (192, undef)] ∧ j ≤ ma.length ∧ anyT PairM.key key (ma.take j) = f ∧ vv = (lastT PairM.key key p0 (ma.take j)).val ∧ K.Sat w0 [g_11, g_8, g_5, g_2, g1, g2, g3, fr] w_) ((fun (j : Nat) (f : Bool) (vv : Int) => ma.length - j) 0 false 0) ?_ ?_
  · -- begins
    exact ⟨0, false, 0, rfl, ⟨by rfl, by rfl, by rfl, by rfl, by rfl, by rfl, by rfl, by rfl, by rfl, by rfl, trivial⟩, (by omega), (rfl), (rfl), hS.pick [0, 1, 2, 3, 4, 5, 6, 7]⟩
  · -- a round
    clear hS
    intro m_13 F_14 w hI
    obtain ⟨j, f, vv, rfl, sl_15, p_16, hf, hv, hS⟩ := hI
    rw [← K.Sl.puts sl_15]; clear sl_15
    cases f
    ·
      refine K.KW.seq ?_
      refine K.KW.seq ?_
      -- 23 :83
      refine K.KW.region ?_
      refine K.RW.qs [.pointer (some ⟨r_4, 0, none⟩)] (by kernel_rfl) ?_
      refine K.RW.q rfl rfl (K.QR.ld1 (v := .int .i64 7) rfl rfl (by kernel_rfl) ((hS.blk 2 rfl hg_6).cell rfl)) ?_
      refine K.RW.qs [.bool true, .bool true, .pointer (some ⟨r_4, 0, none⟩)] (by kernel_rfl) ?_
      refine K.RW.q rfl (by kernel_rfl) (K.QR.ld1 (v := .int .i64 7) rfl rfl (by kernel_rfl) ((hS.blk 2 rfl hg_6).cell rfl)) ?_
      refine K.RW.qs [.bool true, .bool true, .bool true, .int .i64 ((j : Nat) : Int), .pointer (some ⟨r_1, 2, none⟩)] (by kernel_rfl) ?_
      refine K.RW.q rfl (by kernel_rfl) (K.QR.ld1 (v := .slice m ma.length cm) rfl rfl (by kernel_rfl) ((hS.blk 3 rfl hg_3).cell rfl)) ?_
      refine K.RW.q rfl (by kernel_rfl) (K.QR.len (P := Try.prog) rfl rfl Try.underlying40) ?_
      by_cases h_17 : (((j : Nat) : Int) : Int) < (((ma.length : Nat) : Int) : Int)
      ·  -- yes
        refine K.RW.q rfl (by kernel_rfl) (K.QR.nice (v := .bool (decide ((((j : Nat) : Int) : Int) < (((ma.length : Nat) : Int) : Int)))) (by kernel_rfl) (congrArg Value.bool (decide_eq_true h_17))) ?_
        refine K.RW.qs [.bool true] (by kernel_rfl) ?_
        refine K.RW.nil ?_
        refine K.thn_normal ?_
        refine K.KW.ifT rfl ?_
        refine K.KW.skip ?_
        refine K.thn_normal ?_
        refine K.KW.seq ?_
        refine K.KW.block ?_
        refine K.KW.seq ?_
        -- 25 :84
        obtain ⟨b_18, of_19, rfl, _⟩ := (x3 _ (hS.pick [6])).at_ (by omega)
        refine K.KW.gdrawn [3, 6] hS (by kernel_rfl) ?_
        clear hS; intro w hS
        refine K.DW.q 0 (by kernel_rfl) rfl rfl (by kernel_rfl) rfl (fun w hS => K.QR.k (v := .pointer (some ⟨r_1, 2, none⟩)) (by kernel_rfl)) (hS.pick [3, 6]) ?_
        refine K.DW.q 1 (by kernel_rfl) rfl rfl (by kernel_rfl) rfl (fun w hS => K.QR.ld1 (v := .slice (some ⟨b_18, of_19, none⟩) ma.length cm) rfl rfl (by kernel_rfl) ((hS.blk 0 rfl hg_3).cell rfl)) (hS.pick [3, 6]) ?_
        refine K.DW.q 2 (by kernel_rfl) rfl rfl (by kernel_rfl) rfl (fun w hS => K.QR.k (v := .int .i64 ((j : Nat) : Int)) (by kernel_rfl)) (hS.pick [3, 6]) ?_
        refine K.DW.q 3 (by kernel_rfl) rfl rfl (by kernel_rfl) rfl (fun w hS => K.QR.ix (of_19 + j * 2) 2 rfl rfl rfl Try.underlying40 (by kernel_rfl) (by omega) (by first | (simp; done) | omega | (simp; omega))) (hS.pick [3, 6]) ?_
        refine K.DW.q 4 (by kernel_rfl) rfl rfl (by kernel_rfl) rfl (fun w hS => K.QR.k (v := .pointer (some ⟨b_18, of_19 + j * 2, none⟩)) (by kernel_rfl)) (hS.pick [3, 6]) ?_
        refine K.DW.q 5 (by kernel_rfl) rfl rfl (by kernel_rfl) rfl (fun w hS => K.QR.ld1 (v := .int .u32 ((ma.getD j p0).key)) rfl rfl (by kernel_rfl) ((x3 _ (hS.pick [1])).ld j (by omega) 0 _ rfl)) (hS.pick [3, 6]) ?_
        refine K.DW.l 6 rfl (by kernel_rfl) rfl (K.OW.q rfl (K.QR.k (v := .pointer (some ⟨r_4, 1, none⟩)) (by kernel_rfl)) ?_)
        refine ⟨.inl (hS.pick [3, 6]), ?_⟩
        refine K.DW.l 7 rfl (by kernel_rfl) rfl (K.OW.q rfl (K.QR.ld1 (v := .int .u32 key) rfl rfl (by kernel_rfl) ((hS.blk 2 rfl hg_6).cell rfl)) ?_)
        refine ⟨.inl (hS.pick [3, 6]), ?_⟩
        by_cases h_20 : ((ma.getD j p0).key : Int) = (key : Int)
        ·  -- yes
          refine K.DW.l 8 rfl (by kernel_rfl) rfl (K.OW.q rfl (K.QR.nice (v := .bool (((ma.getD j p0).key : Int) == (key : Int))) (by kernel_rfl) (congrArg Value.bool (beq_iff_eq.2 h_20))) ?_)
          refine ⟨.inl (hS.pick [3, 6]), ?_⟩
          refine K.DW.done (by kernel_rfl) ?_
          refine K.thn_normal ?_
          refine K.KW.ifT rfl ?_
          refine K.KW.seq ?_
          -- 26 :85
          refine K.KW.region ?_
          refine K.RW.qs [.bool true] (by kernel_rfl) ?_
          refine K.RW.nil ?_
          refine K.thn_normal ?_
          -- 27 :86
          refine K.KW.region ?_
          refine K.RW.qs [.pointer (some ⟨r_1, 2, none⟩)] (by kernel_rfl) ?_
          refine K.RW.q rfl rfl (K.QR.ld1 (v := .slice (some ⟨b_18, of_19, none⟩) ma.length cm) rfl rfl (by kernel_rfl) ((hS.blk 3 rfl hg_3).cell rfl)) ?_
          refine K.RW.qs [.int .i64 ((j : Nat) : Int)] (by kernel_rfl) ?_
          refine K.RW.q rfl rfl (K.QR.ix (of_19 + j * 2) 2 rfl rfl rfl Try.underlying40 (by kernel_rfl) (by omega) (by first | (simp; done) | omega | (simp; omega))) ?_
          refine K.RW.qs [.pointer (some ⟨b_18, of_19 + j * 2 + 1, none⟩)] (by kernel_rfl) ?_
          refine K.RW.q rfl rfl (K.QR.ld1 (v := .int .u32 ((ma.getD j p0).val)) rfl rfl (by kernel_rfl) ((x3 _ (hS.pick [6])).ld j (by omega) 1 _ rfl)) ?_
          refine K.RW.qs [.int .u32 ((ma.getD j p0).val)] (by kernel_rfl) ?_
          refine K.RW.nil ?_
          refine K.blk_normal ?_
          refine K.thn_normal ?_
          -- 24 :83
          refine K.KW.region ?_
          refine K.RW.qs [.int .i64 ((j : Nat) : Int)] (by kernel_rfl) ?_
          refine K.RW.q rfl rfl (K.QR.n64 ((((j : Nat) : Int) : Int) + (1 : Int)) ((j + 1 : Nat) : Int) (by kernel_rfl) (by omega)) ?_
          refine K.RW.qs [.int .i64 ((j + 1 : Nat) : Int)] (by kernel_rfl) ?_
          refine K.RW.nil ?_
          refine K.thn_normal ?_
          refine ⟨_, ?_, j + 1, true, (ma.getD j p0).val, rfl, ⟨by rfl, by rfl, by rfl, by rfl, by rfl, by rfl, by rfl, by rfl, by rfl, by rfl, trivial⟩, (by omega), ((anyT_next (d := p0) hf (by omega)).trans (any_y2 _ (by assumption))), (last_y (by omega) (by assumption)), hS.pick [0, 1, 2, 3, 4, 5, 6, 7]⟩
          omega
        ·  -- no
          refine K.DW.l 8 rfl (by kernel_rfl) rfl (K.OW.q rfl (K.QR.nice (v := .bool (((ma.getD j p0).key : Int) == (key : Int))) (by kernel_rfl) (congrArg Value.bool (beq_eq_false_iff_ne.2 h_20))) ?_)
          refine ⟨.inl (hS.pick [3, 6]), ?_⟩
          refine K.DW.done (by kernel_rfl) ?_
          refine K.thn_normal ?_
          refine K.KW.ifF rfl ?_
          refine K.KW.skip ?_
          refine K.blk_normal ?_
          refine K.thn_normal ?_
          -- 24 :83
          refine K.KW.region ?_
          refine K.RW.qs [.int .i64 ((j : Nat) : Int)] (by kernel_rfl) ?_
          refine K.RW.q rfl rfl (K.QR.n64 ((((j : Nat) : Int) : Int) + (1 : Int)) ((j + 1 : Nat) : Int) (by kernel_rfl) (by omega)) ?_
          refine K.RW.qs [.int .i64 ((j + 1 : Nat) : Int)] (by kernel_rfl) ?_
          refine K.RW.nil ?_
          refine K.thn_normal ?_
          refine ⟨_, ?_, j + 1, false, vv, rfl, ⟨by rfl, by rfl, by rfl, by rfl, by rfl, by rfl, by rfl, by rfl, by rfl, by rfl, trivial⟩, (by omega), ((anyT_next (d := p0) hf (by omega)).trans (any_n2 _ (by assumption))), (last_n hv (by omega) (by assumption)), hS.pick [0, 1, 2, 3, 4, 5, 6, 7]⟩
          omega
      ·  -- no
        refine K.RW.q rfl (by kernel_rfl) (K.QR.nice (v := .bool (decide ((((j : Nat) : Int) : Int) < (((ma.length : Nat) : Int) : Int)))) (by kernel_rfl) (congrArg Value.bool (decide_eq_false h_17))) ?_
        refine K.RW.qs [.bool false] (by kernel_rfl) ?_
        refine K.RW.nil ?_
        refine K.thn_normal ?_
        refine K.KW.ifF rfl ?_
        refine K.KW.exit ?_
        refine K.thn_exit ?_
        refine K.thn_exit ?_
        refine K.blk_hit ?_
        refine K.thn_normal ?_
        refine K.KW.seq ?_
        refine K.KW.seq ?_
        -- 28 :89
        refine K.KW.region ?_
        refine K.RW.qs [.pointer (some ⟨r_4, 0, none⟩)] (by kernel_rfl) ?_
        refine K.RW.q rfl rfl (K.QR.ld1 (v := .int .i64 7) rfl rfl (by kernel_rfl) ((hS.blk 2 rfl hg_6).cell rfl)) ?_
        refine K.RW.qs [.bool false, .bool false, .pointer (some ⟨r_4, 0, none⟩)] (by kernel_rfl) ?_
        refine K.RW.q rfl (by kernel_rfl) (K.QR.ld1 (v := .int .i64 7) rfl rfl (by kernel_rfl) ((hS.blk 2 rfl hg_6).cell rfl)) ?_
        refine K.RW.qs [.bool false, .bool false] (by kernel_rfl) ?_
        refine K.RW.nil ?_
        refine K.thn_normal ?_
        refine K.KW.ifF rfl ?_
        refine K.KW.skip ?_
        refine K.thn_normal ?_
        refine K.KW.seq ?_
        refine K.KW.seq ?_
        -- 30 :92
        refine K.KW.region ?_
        refine K.RW.qs [.bool false, .bool false] (by kernel_rfl) ?_
        refine K.RW.skip rfl (by kernel_rfl) ?_
        refine K.RW.skip rfl (by kernel_rfl) ?_
        refine K.RW.skip rfl (by kernel_rfl) ?_
        refine K.RW.qs [.bool false, .bool false] (by kernel_rfl) ?_
        refine K.RW.skip rfl (by kernel_rfl) ?_
        refine K.RW.skip rfl (by kernel_rfl) ?_
        refine K.RW.skip rfl (by kernel_rfl) ?_
        refine K.RW.qs [.bool false] (by kernel_rfl) ?_
        refine K.RW.nil ?_
        refine K.thn_normal ?_
        refine K.KW.ifF rfl ?_
        refine K.KW.skip ?_
        refine K.thn_normal ?_
        refine K.KW.seq ?_
        refine K.KW.seq ?_
        -- 32 :95
        refine K.KW.region ?_
        refine K.RW.qs [.bool false, .bool true, .bool true, .pointer (some ⟨r_4, 0, none⟩)] (by kernel_rfl) ?_
        refine K.RW.q rfl (by kernel_rfl) (K.QR.ld1 (v := .int .i64 7) rfl rfl (by kernel_rfl) ((hS.blk 2 rfl hg_6).cell rfl)) ?_
        refine K.RW.qs [.bool true, .bool true, .bool true, .pointer (some ⟨r_4, 0, none⟩)] (by kernel_rfl) ?_
        refine K.RW.q rfl (by kernel_rfl) (K.QR.ld1 (v := .int .i64 7) rfl rfl (by kernel_rfl) ((hS.blk 2 rfl hg_6).cell rfl)) ?_
        refine K.RW.qs [.bool true, .bool true] (by kernel_rfl) ?_
        refine K.RW.nil ?_
        refine K.thn_normal ?_
        refine K.KW.ifT rfl ?_
        refine K.KW.seq ?_
        -- 33 :96
        refine K.KW.region ?_
        refine K.RW.q rfl rfl (K.QR.ldN [.slice q qa.length cq, .slice s sa.length cs, .slice m ma.length cm] rfl rfl (by kernel_rfl) (by kernel_rfl) (K.cells (K.cl ((hS.blk 3 rfl hg_3).cell rfl) (K.cl ((hS.blk 3 rfl hg_3).cell rfl) (K.cl ((hS.blk 3 rfl hg_3).cell rfl) K.cl0))))) ?_
        refine K.RW.q rfl rfl (K.QR.bd [(0, .int .i64 4)] [.int .i64 4, .int .u32 0] rfl rfl (by kernel_rfl)) ?_
        refine K.RW.l rfl (K.OW.gst 1 [.slice q qa.length cq, .slice s sa.length cs, .slice m ma.length cm] [.slice q qa.length cq, .slice s sa.length cs, .slice m ma.length cm] hS hg_9 ?_)
        clear hS; intro w g_21 hg_22 hS
        replace hS : K.Sat w0 [g_11, g_21, g_5, g_2, g1, g2, g3, fr] w := hS
        refine K.RW.l rfl (K.OW.gst 0 [.int .i64 4, .int .u32 0] [.int .i64 4, .int .u32 0] hS hg_12 ?_)
        clear hS; intro w g_23 hg_24 hS
        replace hS : K.Sat w0 [g_23, g_21, g_5, g_2, g1, g2, g3, fr] w := hS
        refine K.RW.nil ?_
        refine K.thn_normal ?_
        refine K.KW.ret ?_
        refine K.thn_ret ?_
        have hany : anyT PairM.key key ma = false := by have h := hf; rw [List.take_of_length_le (by omega)] at h; exact h
        have hlast : vv = (lastT PairM.key key p0 ma).val := by have h := hv; rw [List.take_of_length_le (by omega)] at h; exact h
        have hA : applyT ⟨qa, sa, ma⟩ 7 key val = (⟨qa, sa, ma⟩, 4, 0) := by rw [apM hr2 (by decide), hany, ← hlast]; rfl
        rw [hA]
        refine ⟨.inr rfl, rfl, (.tuple #[.agg #[.slice q qa.length cq, .slice s sa.length cs, .slice m ma.length cm], .agg #[.int .i64 4, .int .u32 0]]), K.resAt (rs := [.cell 4 42, .cell 5 52]) [.agg #[.slice q qa.length cq, .slice s sa.length cs, .slice m ma.length cm], .agg #[.int .i64 4, .int .u32 0]] rfl ⟨⟨_, rfl, K.lvN [.slice q qa.length cq, .slice s sa.length cs, .slice m ma.length cm] (by kernel_rfl) (by kernel_rfl) (K.cells (K.cl ((hS.blk 1 rfl hg_22).cell rfl) (K.cl ((hS.blk 1 rfl hg_22).cell rfl) (K.cl ((hS.blk 1 rfl hg_22).cell rfl) K.cl0))))⟩, ⟨_, rfl, K.lvN [.int .i64 4, .int .u32 0] (by kernel_rfl) (by kernel_rfl) (K.cells (K.cl ((hS.blk 0 rfl hg_24).cell rfl) (K.cl ((hS.blk 0 rfl hg_24).cell rfl) K.cl0)))⟩, trivial⟩, [g1, g2, g3], ?_, hS.pick [4, 5, 6, 7]⟩
        exact ⟨q, cq, s, cs, m, cm, g1, g2, g3, rfl, rfl, x1, x2, x3, hc⟩
    ·
      refine K.KW.seq ?_
      refine K.KW.seq ?_
      -- 23 :83
      refine K.KW.region ?_
      refine K.RW.qs [.pointer (some ⟨r_4, 0, none⟩)] (by kernel_rfl) ?_
      refine K.RW.q rfl rfl (K.QR.ld1 (v := .int .i64 7) rfl rfl (by kernel_rfl) ((hS.blk 2 rfl hg_6).cell rfl)) ?_
      refine K.RW.qs [.bool true, .bool true, .pointer (some ⟨r_4, 0, none⟩)] (by kernel_rfl) ?_
      refine K.RW.q rfl (by kernel_rfl) (K.QR.ld1 (v := .int .i64 7) rfl rfl (by kernel_rfl) ((hS.blk 2 rfl hg_6).cell rfl)) ?_
      refine K.RW.qs [.bool true, .bool true, .bool true, .int .i64 ((j : Nat) : Int), .pointer (some ⟨r_1, 2, none⟩)] (by kernel_rfl) ?_
      refine K.RW.q rfl (by kernel_rfl) (K.QR.ld1 (v := .slice m ma.length cm) rfl rfl (by kernel_rfl) ((hS.blk 3 rfl hg_3).cell rfl)) ?_
      refine K.RW.q rfl (by kernel_rfl) (K.QR.len (P := Try.prog) rfl rfl Try.underlying40) ?_
      by_cases h_25 : (((j : Nat) : Int) : Int) < (((ma.length : Nat) : Int) : Int)
      ·  -- yes
        refine K.RW.q rfl (by kernel_rfl) (K.QR.nice (v := .bool (decide ((((j : Nat) : Int) : Int) < (((ma.length : Nat) : Int) : Int)))) (by kernel_rfl) (congrArg Value.bool (decide_eq_true h_25))) ?_
        refine K.RW.qs [.bool true] (by kernel_rfl) ?_
        refine K.RW.nil ?_
        refine K.thn_normal ?_
        refine K.KW.ifT rfl ?_
        refine K.KW.skip ?_
        refine K.thn_normal ?_
        refine K.KW.seq ?_
        refine K.KW.block ?_
        refine K.KW.seq ?_
        -- 25 :84
        obtain ⟨b_26, of_27, rfl, _⟩ := (x3 _ (hS.pick [6])).at_ (by omega)
        refine K.KW.gdrawn [3, 6] hS (by kernel_rfl) ?_
        clear hS; intro w hS
        refine K.DW.q 0 (by kernel_rfl) rfl rfl (by kernel_rfl) rfl (fun w hS => K.QR.k (v := .pointer (some ⟨r_1, 2, none⟩)) (by kernel_rfl)) (hS.pick [3, 6]) ?_
        refine K.DW.q 1 (by kernel_rfl) rfl rfl (by kernel_rfl) rfl (fun w hS => K.QR.ld1 (v := .slice (some ⟨b_26, of_27, none⟩) ma.length cm) rfl rfl (by kernel_rfl) ((hS.blk 0 rfl hg_3).cell rfl)) (hS.pick [3, 6]) ?_
        refine K.DW.q 2 (by kernel_rfl) rfl rfl (by kernel_rfl) rfl (fun w hS => K.QR.k (v := .int .i64 ((j : Nat) : Int)) (by kernel_rfl)) (hS.pick [3, 6]) ?_
        refine K.DW.q 3 (by kernel_rfl) rfl rfl (by kernel_rfl) rfl (fun w hS => K.QR.ix (of_27 + j * 2) 2 rfl rfl rfl Try.underlying40 (by kernel_rfl) (by omega) (by first | (simp; done) | omega | (simp; omega))) (hS.pick [3, 6]) ?_
        refine K.DW.q 4 (by kernel_rfl) rfl rfl (by kernel_rfl) rfl (fun w hS => K.QR.k (v := .pointer (some ⟨b_26, of_27 + j * 2, none⟩)) (by kernel_rfl)) (hS.pick [3, 6]) ?_
        refine K.DW.q 5 (by kernel_rfl) rfl rfl (by kernel_rfl) rfl (fun w hS => K.QR.ld1 (v := .int .u32 ((ma.getD j p0).key)) rfl rfl (by kernel_rfl) ((x3 _ (hS.pick [1])).ld j (by omega) 0 _ rfl)) (hS.pick [3, 6]) ?_
        refine K.DW.l 6 rfl (by kernel_rfl) rfl (K.OW.q rfl (K.QR.k (v := .pointer (some ⟨r_4, 1, none⟩)) (by kernel_rfl)) ?_)
        refine ⟨.inl (hS.pick [3, 6]), ?_⟩
        refine K.DW.l 7 rfl (by kernel_rfl) rfl (K.OW.q rfl (K.QR.ld1 (v := .int .u32 key) rfl rfl (by kernel_rfl) ((hS.blk 2 rfl hg_6).cell rfl)) ?_)
        refine ⟨.inl (hS.pick [3, 6]), ?_⟩
        by_cases h_28 : ((ma.getD j p0).key : Int) = (key : Int)
        ·  -- yes
          refine K.DW.l 8 rfl (by kernel_rfl) rfl (K.OW.q rfl (K.QR.nice (v := .bool (((ma.getD j p0).key : Int) == (key : Int))) (by kernel_rfl) (congrArg Value.bool (beq_iff_eq.2 h_28))) ?_)
          refine ⟨.inl (hS.pick [3, 6]), ?_⟩
          refine K.DW.done (by kernel_rfl) ?_
          refine K.thn_normal ?_
          refine K.KW.ifT rfl ?_
          refine K.KW.seq ?_
          -- 26 :85
          refine K.KW.region ?_
          refine K.RW.qs [.bool true] (by kernel_rfl) ?_
          refine K.RW.nil ?_
          refine K.thn_normal ?_
          -- 27 :86
          refine K.KW.region ?_
          refine K.RW.qs [.pointer (some ⟨r_1, 2, none⟩)] (by kernel_rfl) ?_
          refine K.RW.q rfl rfl (K.QR.ld1 (v := .slice (some ⟨b_26, of_27, none⟩) ma.length cm) rfl rfl (by kernel_rfl) ((hS.blk 3 rfl hg_3).cell rfl)) ?_
          refine K.RW.qs [.int .i64 ((j : Nat) : Int)] (by kernel_rfl) ?_
          refine K.RW.q rfl rfl (K.QR.ix (of_27 + j * 2) 2 rfl rfl rfl Try.underlying40 (by kernel_rfl) (by omega) (by first | (simp; done) | omega | (simp; omega))) ?_
          refine K.RW.qs [.pointer (some ⟨b_26, of_27 + j * 2 + 1, none⟩)] (by kernel_rfl) ?_
          refine K.RW.q rfl rfl (K.QR.ld1 (v := .int .u32 ((ma.getD j p0).val)) rfl rfl (by kernel_rfl) ((x3 _ (hS.pick [6])).ld j (by omega) 1 _ rfl)) ?_
          refine K.RW.qs [.int .u32 ((ma.getD j p0).val)] (by kernel_rfl) ?_
          refine K.RW.nil ?_
          refine K.blk_normal ?_
          refine K.thn_normal ?_
          -- 24 :83
          refine K.KW.region ?_
          refine K.RW.qs [.int .i64 ((j : Nat) : Int)] (by kernel_rfl) ?_
          refine K.RW.q rfl rfl (K.QR.n64 ((((j : Nat) : Int) : Int) + (1 : Int)) ((j + 1 : Nat) : Int) (by kernel_rfl) (by omega)) ?_
          refine K.RW.qs [.int .i64 ((j + 1 : Nat) : Int)] (by kernel_rfl) ?_
          refine K.RW.nil ?_
          refine K.thn_normal ?_
          refine ⟨_, ?_, j + 1, true, (ma.getD j p0).val, rfl, ⟨by rfl, by rfl, by rfl, by rfl, by rfl, by rfl, by rfl, by rfl, by rfl, by rfl, trivial⟩, (by omega), ((anyT_next (d := p0) hf (by omega)).trans (any_y2 _ (by assumption))), (last_y (by omega) (by assumption)), hS.pick [0, 1, 2, 3, 4, 5, 6, 7]⟩
          omega
        ·  -- no
          refine K.DW.l 8 rfl (by kernel_rfl) rfl (K.OW.q rfl (K.QR.nice (v := .bool (((ma.getD j p0).key : Int) == (key : Int))) (by kernel_rfl) (congrArg Value.bool (beq_eq_false_iff_ne.2 h_28))) ?_)
          refine ⟨.inl (hS.pick [3, 6]), ?_⟩
          refine K.DW.done (by kernel_rfl) ?_
          refine K.thn_normal ?_
          refine K.KW.ifF rfl ?_
          refine K.KW.skip ?_
          refine K.blk_normal ?_
          refine K.thn_normal ?_
          -- 24 :83
          refine K.KW.region ?_
          refine K.RW.qs [.int .i64 ((j : Nat) : Int)] (by kernel_rfl) ?_
          refine K.RW.q rfl rfl (K.QR.n64 ((((j : Nat) : Int) : Int) + (1 : Int)) ((j + 1 : Nat) : Int) (by kernel_rfl) (by omega)) ?_
          refine K.RW.qs [.int .i64 ((j + 1 : Nat) : Int)] (by kernel_rfl) ?_
          refine K.RW.nil ?_
          refine K.thn_normal ?_
          refine ⟨_, ?_, j + 1, true, vv, rfl, ⟨by rfl, by rfl, by rfl, by rfl, by rfl, by rfl, by rfl, by rfl, by rfl, by rfl, trivial⟩, (by omega), ((anyT_next (d := p0) hf (by omega)).trans (any_n2 _ (by assumption))), (last_n hv (by omega) (by assumption)), hS.pick [0, 1, 2, 3, 4, 5, 6, 7]⟩
          omega
      ·  -- no
        refine K.RW.q rfl (by kernel_rfl) (K.QR.nice (v := .bool (decide ((((j : Nat) : Int) : Int) < (((ma.length : Nat) : Int) : Int)))) (by kernel_rfl) (congrArg Value.bool (decide_eq_false h_25))) ?_
        refine K.RW.qs [.bool false] (by kernel_rfl) ?_
        refine K.RW.nil ?_
        refine K.thn_normal ?_
        refine K.KW.ifF rfl ?_
        refine K.KW.exit ?_
        refine K.thn_exit ?_
        refine K.thn_exit ?_
        refine K.blk_hit ?_
        refine K.thn_normal ?_
        refine K.KW.seq ?_
        refine K.KW.seq ?_
        -- 28 :89
        refine K.KW.region ?_
        refine K.RW.qs [.pointer (some ⟨r_4, 0, none⟩)] (by kernel_rfl) ?_
        refine K.RW.q rfl rfl (K.QR.ld1 (v := .int .i64 7) rfl rfl (by kernel_rfl) ((hS.blk 2 rfl hg_6).cell rfl)) ?_
        refine K.RW.qs [.bool false, .bool false, .pointer (some ⟨r_4, 0, none⟩)] (by kernel_rfl) ?_
        refine K.RW.q rfl (by kernel_rfl) (K.QR.ld1 (v := .int .i64 7) rfl rfl (by kernel_rfl) ((hS.blk 2 rfl hg_6).cell rfl)) ?_
        refine K.RW.qs [.bool false, .bool false] (by kernel_rfl) ?_
        refine K.RW.nil ?_
        refine K.thn_normal ?_
        refine K.KW.ifF rfl ?_
        refine K.KW.skip ?_
        refine K.thn_normal ?_
        refine K.KW.seq ?_
        refine K.KW.seq ?_
        -- 30 :92
        refine K.KW.region ?_
        refine K.RW.qs [.bool true, .bool true, .pointer (some ⟨r_4, 0, none⟩)] (by kernel_rfl) ?_
        refine K.RW.q rfl (by kernel_rfl) (K.QR.ld1 (v := .int .i64 7) rfl rfl (by kernel_rfl) ((hS.blk 2 rfl hg_6).cell rfl)) ?_
        refine K.RW.qs [.bool true, .bool true, .bool true, .pointer (some ⟨r_4, 0, none⟩)] (by kernel_rfl) ?_
        refine K.RW.q rfl (by kernel_rfl) (K.QR.ld1 (v := .int .i64 7) rfl rfl (by kernel_rfl) ((hS.blk 2 rfl hg_6).cell rfl)) ?_
        refine K.RW.qs [.bool true, .bool true] (by kernel_rfl) ?_
        refine K.RW.nil ?_
        refine K.thn_normal ?_
        refine K.KW.ifT rfl ?_
        refine K.KW.seq ?_
        -- 31 :93
        refine K.KW.region ?_
        refine K.RW.q rfl rfl (K.QR.ldN [.slice q qa.length cq, .slice s sa.length cs, .slice m ma.length cm] rfl rfl (by kernel_rfl) (by kernel_rfl) (K.cells (K.cl ((hS.blk 3 rfl hg_3).cell rfl) (K.cl ((hS.blk 3 rfl hg_3).cell rfl) (K.cl ((hS.blk 3 rfl hg_3).cell rfl) K.cl0))))) ?_
        refine K.RW.qs [.int .u32 vv] (by kernel_rfl) ?_
        refine K.RW.q rfl rfl (K.QR.bd [(0, .int .i64 3), (1, .int .u32 vv)] [.int .i64 3, .int .u32 vv] rfl rfl (by kernel_rfl)) ?_
        refine K.RW.l rfl (K.OW.gst 1 [.slice q qa.length cq, .slice s sa.length cs, .slice m ma.length cm] [.slice q qa.length cq, .slice s sa.length cs, .slice m ma.length cm] hS hg_9 ?_)
        clear hS; intro w g_29 hg_30 hS
        replace hS : K.Sat w0 [g_11, g_29, g_5, g_2, g1, g2, g3, fr] w := hS
        refine K.RW.l rfl (K.OW.gst 0 [.int .i64 3, .int .u32 vv] [.int .i64 3, .int .u32 vv] hS hg_12 ?_)
        clear hS; intro w g_31 hg_32 hS
        replace hS : K.Sat w0 [g_31, g_29, g_5, g_2, g1, g2, g3, fr] w := hS
        refine K.RW.nil ?_
        refine K.thn_normal ?_
        refine K.KW.ret ?_
        refine K.thn_ret ?_
        have hany : anyT PairM.key key ma = true := by have h := hf; rw [List.take_of_length_le (by omega)] at h; exact h
        have hlast : vv = (lastT PairM.key key p0 ma).val := by have h := hv; rw [List.take_of_length_le (by omega)] at h; exact h
        have hA : applyT ⟨qa, sa, ma⟩ 7 key val = (⟨qa, sa, ma⟩, 3, vv) := by rw [apM hr2 (by decide), hany, ← hlast]; rfl
        rw [hA]
        refine ⟨.inr rfl, rfl, (.tuple #[.agg #[.slice q qa.length cq, .slice s sa.length cs, .slice m ma.length cm], .agg #[.int .i64 3, .int .u32 vv]]), K.resAt (rs := [.cell 4 42, .cell 5 52]) [.agg #[.slice q qa.length cq, .slice s sa.length cs, .slice m ma.length cm], .agg #[.int .i64 3, .int .u32 vv]] rfl ⟨⟨_, rfl, K.lvN [.slice q qa.length cq, .slice s sa.length cs, .slice m ma.length cm] (by kernel_rfl) (by kernel_rfl) (K.cells (K.cl ((hS.blk 1 rfl hg_30).cell rfl) (K.cl ((hS.blk 1 rfl hg_30).cell rfl) (K.cl ((hS.blk 1 rfl hg_30).cell rfl) K.cl0))))⟩, ⟨_, rfl, K.lvN [.int .i64 3, .int .u32 vv] (by kernel_rfl) (by kernel_rfl) (K.cells (K.cl ((hS.blk 0 rfl hg_32).cell rfl) (K.cl ((hS.blk 0 rfl hg_32).cell rfl) K.cl0)))⟩, trivial⟩, [g1, g2, g3], ?_, hS.pick [4, 5, 6, 7]⟩
        exact ⟨q, cq, s, cs, m, cm, g1, g2, g3, rfl, rfl, x1, x2, x3, hc⟩

set_option maxHeartbeats 1000000 in
set_option maxRecDepth 100000 in
theorem rapply8_ok (w0 : World) (q s m : Option Addr) (cq cs cm : Nat) (qa sa : List Int) (ma : List PairM) (key val : Int) (h1 : qa.length ≤ 1000000) (h2 : sa.length ≤ 1000000) (h3 : ma.length ≤ 1000000) (hr1 : rising sa) (hr2 : rising (keysP ma)) (hc : qa.length ≤ cq) (g1 : K.Cs) (x1 : ∀ w, K.Sat w0 [g1] w → K.RowE w q qa.length 1 (fun i => cU32 (qa.getD i 0))) (g2 : K.Cs) (x2 : ∀ w, K.Sat w0 [g2] w → K.RowE w s sa.length 1 (fun i => cU32 (sa.getD i 0))) (g3 : K.Cs) (x3 : ∀ w, K.Sat w0 [g3] w → K.RowE w m ma.length 2 (fun i => cPair (ma.getD i p0))) :
    K.GC Try.prog w0 33 #[.agg #[.slice q qa.length cq, .slice s sa.length cs, .slice m ma.length cm], .agg #[.int .i64 8, .int .u32 key, .int .u32 val]] [g1, g2, g3] (ApR w0 (applyT ⟨qa, sa, ma⟩ 8 key val)) := by
  refine K.GC.mk (n := 192) Try.func33 rfl rfl [.agg #[.slice q qa.length cq, .slice s sa.length cs, .slice m ma.length cm], .agg #[.int .i64 8, .int .u32 key, .int .u32 val]] rfl rfl ?_
  intro fr w hS
  replace hS : K.Sat w0 [g1, g2, g3, fr] w := hS
  refine K.KW.seq ?_
  -- 0 :60
  refine K.KW.region ?_
  refine K.RW.l rfl (K.OW.gnew 42 [.slice q qa.length cq, .slice s sa.length cs, .slice m ma.length cm] hS ?_)
  clear hS; intro w r_1 g_2 hg_3 hS
  refine K.RW.l rfl (K.OW.gnew 45 [.int .i64 8, .int .u32 key, .int .u32 val] hS ?_)
  clear hS; intro w r_4 g_5 hg_6 hS
  refine K.RW.l rfl (K.OW.gnew 42 [.slice none 0 0, .slice none 0 0, .slice none 0 0] hS ?_)
  clear hS; intro w r_7 g_8 hg_9 hS
  refine K.RW.l rfl (K.OW.gnew 52 [.int .i64 0, .int .u32 0] hS ?_)
  clear hS; intro w r_10 g_11 hg_12 hS
  refine K.RW.nil ?_
  refine K.thn_normal ?_
  refine K.KW.seq ?_
  refine K.KW.seq ?_
  -- 1 :61
  refine K.KW.region ?_
  refine K.RW.qs [.pointer (some ⟨r_4, 0, none⟩)] (by kernel_rfl) ?_
  refine K.RW.q rfl rfl (K.QR.ld1 (v := .int .i64 8) rfl rfl (by kernel_rfl) ((hS.blk 2 rfl hg_6).cell rfl)) ?_
  refine K.RW.qs [.bool false] (by kernel_rfl) ?_
  refine K.RW.nil ?_
  refine K.thn_normal ?_
  refine K.KW.ifF rfl ?_
  refine K.KW.skip ?_
  refine K.thn_normal ?_
  refine K.KW.seq ?_
  refine K.KW.seq ?_
  -- 10 :70
  refine K.KW.region ?_
  refine K.RW.qs [.pointer (some ⟨r_4, 0, none⟩)] (by kernel_rfl) ?_
  refine K.RW.q rfl rfl (K.QR.ld1 (v := .int .i64 8) rfl rfl (by kernel_rfl) ((hS.blk 2 rfl hg_6).cell rfl)) ?_
  refine K.RW.qs [.bool false, .bool false] (by kernel_rfl) ?_
  refine K.RW.skip rfl (by kernel_rfl) ?_
  refine K.RW.skip rfl (by kernel_rfl) ?_
  refine K.RW.skip rfl (by kernel_rfl) ?_
  refine K.RW.skip rfl (by kernel_rfl) ?_
  refine K.RW.qs [.bool false] (by kernel_rfl) ?_
  refine K.RW.nil ?_
  refine K.thn_normal ?_
  refine K.KW.ifF rfl ?_
  refine K.KW.skip ?_
  refine K.thn_normal ?_
  refine K.KW.seq ?_
  refine K.KW.seq ?_
  -- 12 :73
  refine K.KW.region ?_
  refine K.RW.qs [.pointer (some ⟨r_4, 0, none⟩)] (by kernel_rfl) ?_
  refine K.RW.q rfl rfl (K.QR.ld1 (v := .int .i64 8) rfl rfl (by kernel_rfl) ((hS.blk 2 rfl hg_6).cell rfl)) ?_
  refine K.RW.qs [.bool false] (by kernel_rfl) ?_
  refine K.RW.nil ?_
  refine K.thn_normal ?_
  refine K.KW.ifF rfl ?_
  refine K.KW.skip ?_
  refine K.thn_normal ?_
  refine K.KW.seq ?_
  -- 16 :78
  refine K.KW.region ?_
  refine K.RW.qs [.bool false] (by kernel_rfl) ?_
  refine K.RW.nil ?_
  refine K.thn_normal ?_
  refine K.KW.seq ?_
  refine K.KW.seq ?_
  -- 17 :79
  refine K.KW.region ?_
  refine K.RW.qs [.int .i64 0] (by kernel_rfl) ?_
  refine K.RW.nil ?_
  refine K.thn_normal ?_
  refine K.KW.block ?_
  refine K.KW.unr 0 ?_
  refine K.Unr.zero ?_
  refine K.KW.seq ?_
  refine K.KW.seq ?_
  -- 18 :79
  refine K.KW.region ?_
  refine K.RW.qs [.pointer (some ⟨r_4, 0, none⟩)] (by kernel_rfl) ?_
  refine K.RW.q rfl rfl (K.QR.ld1 (v := .int .i64 8) rfl rfl (by kernel_rfl) ((hS.blk 2 rfl hg_6).cell rfl)) ?_
  refine K.RW.qs [.bool true, .bool true, .pointer (some ⟨r_4, 0, none⟩)] (by kernel_rfl) ?_
  refine K.RW.q rfl (by kernel_rfl) (K.QR.ld1 (v := .int .i64 8) rfl rfl (by kernel_rfl) ((hS.blk 2 rfl hg_6).cell rfl)) ?_
  refine K.RW.qs [.bool false, .bool false, .bool false] (by kernel_rfl) ?_
  refine K.RW.skip rfl (by kernel_rfl) ?_
  refine K.RW.skip rfl (by kernel_rfl) ?_
  refine K.RW.skip rfl (by kernel_rfl) ?_
  refine K.RW.skip rfl (by kernel_rfl) ?_
  refine K.RW.skip rfl (by kernel_rfl) ?_
  refine K.RW.qs [.bool false] (by kernel_rfl) ?_
  refine K.RW.nil ?_
  refine K.thn_normal ?_
  refine K.KW.ifF rfl ?_
  refine K.KW.exit ?_
  refine K.thn_exit ?_
  refine K.thn_exit ?_
  refine K.blk_hit ?_
  refine K.thn_normal ?_
  refine K.KW.seq ?_
  -- 21 :82
  refine K.KW.region ?_
  refine K.RW.qs [.int .u32 0] (by kernel_rfl) ?_
  refine K.RW.nil ?_
  refine K.thn_normal ?_
  refine K.KW.seq ?_
  refine K.KW.seq ?_
  -- 22 :83
  refine K.KW.region ?_
  refine K.RW.qs [.int .i64 0] (by kernel_rfl) ?_
  refine K.RW.nil ?_
  refine K.thn_normal ?_
  refine K.KW.block ?_
  refine K.KW.loop (fun m_ F_ w_ => ∃ (j : Nat) (f : Bool) (vv : Int), m_ = ma.length - j ∧ K.Sl F_ [(0, .agg #[.slice q qa.length cq, .slice s sa.length cs, .slice m ma.length cm]), (1, .agg #[.int .i64 8, .int .u32 key, .int .u32 val]), (2, .pointer (some ⟨r_1, 0, none⟩)), (3, .pointer (some ⟨r_4, 0, none⟩)), (4, .pointer (some ⟨r_7, 0, none⟩)), (5, .pointer (some ⟨r_10, 0, none⟩)), (9, .bool f), (11, .int .u32 vv), (12, .int .i64 ((j : Nat) : Int)), (192, undef)] ∧ j ≤ ma.length ∧ anyT PairM.key key (ma.take j) = f ∧ vv = (lastT PairM.key key p0 (ma.take j)).val ∧ K.Sat w0 [g_11, g_8, g_5, g_2, g1, g2, g3, fr] w_) ((fun (j : Nat) (f : Bool) (vv : Int) => ma.length - j) 0 false 0) ?_ ?_
  · -- begins
    exact ⟨0, false, 0, rfl, ⟨by rfl, by rfl, by rfl, by rfl, by rfl, by rfl, by rfl, by rfl, by rfl, by rfl, trivial⟩, (by omega), (rfl), (rfl), hS.pick [0, 1, 2, 3, 4, 5, 6, 7]⟩
  · -- a round
    clear hS
    intro m_13 F_14 w hI
    obtain ⟨j, f, vv, rfl, sl_15, p_16, hf, hv, hS⟩ := hI
    rw [← K.Sl.puts sl_15]; clear sl_15
    cases f
    ·
      refine K.KW.seq ?_
      refine K.KW.seq ?_
      -- 23 :83
      refine K.KW.region ?_
      refine K.RW.qs [.pointer (some ⟨r_4, 0, none⟩)] (by kernel_rfl) ?_
      refine K.RW.q rfl rfl (K.QR.ld1 (v := .int .i64 8) rfl rfl (by kernel_rfl) ((hS.blk 2 rfl hg_6).cell rfl)) ?_
      refine K.RW.qs [.bool true, .bool true, .pointer (some ⟨r_4, 0, none⟩)] (by kernel_rfl) ?_
      refine K.RW.q rfl (by kernel_rfl) (K.QR.ld1 (v := .int .i64 8) rfl rfl (by kernel_rfl) ((hS.blk 2 rfl hg_6).cell rfl)) ?_
      refine K.RW.qs [.bool true, .bool true, .bool true, .int .i64 ((j : Nat) : Int), .pointer (some ⟨r_1, 2, none⟩)] (by kernel_rfl) ?_
      refine K.RW.q rfl (by kernel_rfl) (K.QR.ld1 (v := .slice m ma.length cm) rfl rfl (by kernel_rfl) ((hS.blk 3 rfl hg_3).cell rfl)) ?_
      refine K.RW.q rfl (by kernel_rfl) (K.QR.len (P := Try.prog) rfl rfl Try.underlying40) ?_
      by_cases h_17 : (((j : Nat) : Int) : Int) < (((ma.length : Nat) : Int) : Int)
      ·  -- yes
        refine K.RW.q rfl (by kernel_rfl) (K.QR.nice (v := .bool (decide ((((j : Nat) : Int) : Int) < (((ma.length : Nat) : Int) : Int)))) (by kernel_rfl) (congrArg Value.bool (decide_eq_true h_17))) ?_
        refine K.RW.qs [.bool true] (by kernel_rfl) ?_
        refine K.RW.nil ?_
        refine K.thn_normal ?_
        refine K.KW.ifT rfl ?_
        refine K.KW.skip ?_
        refine K.thn_normal ?_
        refine K.KW.seq ?_
        refine K.KW.block ?_
        refine K.KW.seq ?_
        -- 25 :84
        obtain ⟨b_18, of_19, rfl, _⟩ := (x3 _ (hS.pick [6])).at_ (by omega)
        refine K.KW.gdrawn [3, 6] hS (by kernel_rfl) ?_
        clear hS; intro w hS
        refine K.DW.q 0 (by kernel_rfl) rfl rfl (by kernel_rfl) rfl (fun w hS => K.QR.k (v := .pointer (some ⟨r_1, 2, none⟩)) (by kernel_rfl)) (hS.pick [3, 6]) ?_
        refine K.DW.q 1 (by kernel_rfl) rfl rfl (by kernel_rfl) rfl (fun w hS => K.QR.ld1 (v := .slice (some ⟨b_18, of_19, none⟩) ma.length cm) rfl rfl (by kernel_rfl) ((hS.blk 0 rfl hg_3).cell rfl)) (hS.pick [3, 6]) ?_
        refine K.DW.q 2 (by kernel_rfl) rfl rfl (by kernel_rfl) rfl (fun w hS => K.QR.k (v := .int .i64 ((j : Nat) : Int)) (by kernel_rfl)) (hS.pick [3, 6]) ?_
        refine K.DW.q 3 (by kernel_rfl) rfl rfl (by kernel_rfl) rfl (fun w hS => K.QR.ix (of_19 + j * 2) 2 rfl rfl rfl Try.underlying40 (by kernel_rfl) (by omega) (by first | (simp; done) | omega | (simp; omega))) (hS.pick [3, 6]) ?_
        refine K.DW.q 4 (by kernel_rfl) rfl rfl (by kernel_rfl) rfl (fun w hS => K.QR.k (v := .pointer (some ⟨b_18, of_19 + j * 2, none⟩)) (by kernel_rfl)) (hS.pick [3, 6]) ?_
        refine K.DW.q 5 (by kernel_rfl) rfl rfl (by kernel_rfl) rfl (fun w hS => K.QR.ld1 (v := .int .u32 ((ma.getD j p0).key)) rfl rfl (by kernel_rfl) ((x3 _ (hS.pick [1])).ld j (by omega) 0 _ rfl)) (hS.pick [3, 6]) ?_
        refine K.DW.l 6 rfl (by kernel_rfl) rfl (K.OW.q rfl (K.QR.k (v := .pointer (some ⟨r_4, 1, none⟩)) (by kernel_rfl)) ?_)
        refine ⟨.inl (hS.pick [3, 6]), ?_⟩
        refine K.DW.l 7 rfl (by kernel_rfl) rfl (K.OW.q rfl (K.QR.ld1 (v := .int .u32 key) rfl rfl (by kernel_rfl) ((hS.blk 2 rfl hg_6).cell rfl)) ?_)
        refine ⟨.inl (hS.pick [3, 6]), ?_⟩
        by_cases h_20 : ((ma.getD j p0).key : Int) = (key : Int)
        ·  -- yes
          refine K.DW.l 8 rfl (by kernel_rfl) rfl (K.OW.q rfl (K.QR.nice (v := .bool (((ma.getD j p0).key : Int) == (key : Int))) (by kernel_rfl) (congrArg Value.bool (beq_iff_eq.2 h_20))) ?_)
          refine ⟨.inl (hS.pick [3, 6]), ?_⟩
          refine K.DW.done (by kernel_rfl) ?_
          refine K.thn_normal ?_
          refine K.KW.ifT rfl ?_
          refine K.KW.seq ?_
          -- 26 :85
          refine K.KW.region ?_
          refine K.RW.qs [.bool true] (by kernel_rfl) ?_
          refine K.RW.nil ?_
          refine K.thn_normal ?_
          -- 27 :86
          refine K.KW.region ?_
          refine K.RW.qs [.pointer (some ⟨r_1, 2, none⟩)] (by kernel_rfl) ?_
          refine K.RW.q rfl rfl (K.QR.ld1 (v := .slice (some ⟨b_18, of_19, none⟩) ma.length cm) rfl rfl (by kernel_rfl) ((hS.blk 3 rfl hg_3).cell rfl)) ?_
          refine K.RW.qs [.int .i64 ((j : Nat) : Int)] (by kernel_rfl) ?_
          refine K.RW.q rfl rfl (K.QR.ix (of_19 + j * 2) 2 rfl rfl rfl Try.underlying40 (by kernel_rfl) (by omega) (by first | (simp; done) | omega | (simp; omega))) ?_
          refine K.RW.qs [.pointer (some ⟨b_18, of_19 + j * 2 + 1, none⟩)] (by kernel_rfl) ?_
          refine K.RW.q rfl rfl (K.QR.ld1 (v := .int .u32 ((ma.getD j p0).val)) rfl rfl (by kernel_rfl) ((x3 _ (hS.pick [6])).ld j (by omega) 1 _ rfl)) ?_
          refine K.RW.qs [.int .u32 ((ma.getD j p0).val)] (by kernel_rfl) ?_
          refine K.RW.nil ?_
          refine K.blk_normal ?_
          refine K.thn_normal ?_
          -- 24 :83
          refine K.KW.region ?_
          refine K.RW.qs [.int .i64 ((j : Nat) : Int)] (by kernel_rfl) ?_
          refine K.RW.q rfl rfl (K.QR.n64 ((((j : Nat) : Int) : Int) + (1 : Int)) ((j + 1 : Nat) : Int) (by kernel_rfl) (by omega)) ?_
          refine K.RW.qs [.int .i64 ((j + 1 : Nat) : Int)] (by kernel_rfl) ?_
          refine K.RW.nil ?_
          refine K.thn_normal ?_
          refine ⟨_, ?_, j + 1, true, (ma.getD j p0).val, rfl, ⟨by rfl, by rfl, by rfl, by rfl, by rfl, by rfl, by rfl, by rfl, by rfl, by rfl, trivial⟩, (by omega), ((anyT_next (d := p0) hf (by omega)).trans (any_y2 _ (by assumption))), (last_y (by omega) (by assumption)), hS.pick [0, 1, 2, 3, 4, 5, 6, 7]⟩
          omega
        ·  -- no
          refine K.DW.l 8 rfl (by kernel_rfl) rfl (K.OW.q rfl (K.QR.nice (v := .bool (((ma.getD j p0).key : Int) == (key : Int))) (by kernel_rfl) (congrArg Value.bool (beq_eq_false_iff_ne.2 h_20))) ?_)
          refine ⟨.inl (hS.pick [3, 6]), ?_⟩
          refine K.DW.done (by kernel_rfl) ?_
          refine K.thn_normal ?_
          refine K.KW.ifF rfl ?_
          refine K.KW.skip ?_
          refine K.blk_normal ?_
          refine K.thn_normal ?_
          -- 24 :83
          refine K.KW.region ?_
          refine K.RW.qs [.int .i64 ((j : Nat) : Int)] (by kernel_rfl) ?_
          refine K.RW.q rfl rfl (K.QR.n64 ((((j : Nat) : Int) : Int) + (1 : Int)) ((j + 1 : Nat) : Int) (by kernel_rfl) (by omega)) ?_
          refine K.RW.qs [.int .i64 ((j + 1 : Nat) : Int)] (by kernel_rfl) ?_
          refine K.RW.nil ?_
          refine K.thn_normal ?_
          refine ⟨_, ?_, j + 1, false, vv, rfl, ⟨by rfl, by rfl, by rfl, by rfl, by rfl, by rfl, by rfl, by rfl, by rfl, by rfl, trivial⟩, (by omega), ((anyT_next (d := p0) hf (by omega)).trans (any_n2 _ (by assumption))), (last_n hv (by omega) (by assumption)), hS.pick [0, 1, 2, 3, 4, 5, 6, 7]⟩
          omega
      ·  -- no
        refine K.RW.q rfl (by kernel_rfl) (K.QR.nice (v := .bool (decide ((((j : Nat) : Int) : Int) < (((ma.length : Nat) : Int) : Int)))) (by kernel_rfl) (congrArg Value.bool (decide_eq_false h_17))) ?_
        refine K.RW.qs [.bool false] (by kernel_rfl) ?_
        refine K.RW.nil ?_
        refine K.thn_normal ?_
        refine K.KW.ifF rfl ?_
        refine K.KW.exit ?_
        refine K.thn_exit ?_
        refine K.thn_exit ?_
        refine K.blk_hit ?_
        refine K.thn_normal ?_
        refine K.KW.seq ?_
        refine K.KW.seq ?_
        -- 28 :89
        refine K.KW.region ?_
        refine K.RW.qs [.pointer (some ⟨r_4, 0, none⟩)] (by kernel_rfl) ?_
        refine K.RW.q rfl rfl (K.QR.ld1 (v := .int .i64 8) rfl rfl (by kernel_rfl) ((hS.blk 2 rfl hg_6).cell rfl)) ?_
        refine K.RW.qs [.bool false, .bool false, .pointer (some ⟨r_4, 0, none⟩)] (by kernel_rfl) ?_
        refine K.RW.q rfl (by kernel_rfl) (K.QR.ld1 (v := .int .i64 8) rfl rfl (by kernel_rfl) ((hS.blk 2 rfl hg_6).cell rfl)) ?_
        refine K.RW.qs [.bool false, .bool false] (by kernel_rfl) ?_
        refine K.RW.nil ?_
        refine K.thn_normal ?_
        refine K.KW.ifF rfl ?_
        refine K.KW.skip ?_
        refine K.thn_normal ?_
        refine K.KW.seq ?_
        refine K.KW.seq ?_
        -- 30 :92
        refine K.KW.region ?_
        refine K.RW.qs [.bool false, .bool false] (by kernel_rfl) ?_
        refine K.RW.skip rfl (by kernel_rfl) ?_
        refine K.RW.skip rfl (by kernel_rfl) ?_
        refine K.RW.skip rfl (by kernel_rfl) ?_
        refine K.RW.qs [.bool false, .bool false] (by kernel_rfl) ?_
        refine K.RW.skip rfl (by kernel_rfl) ?_
        refine K.RW.skip rfl (by kernel_rfl) ?_
        refine K.RW.skip rfl (by kernel_rfl) ?_
        refine K.RW.qs [.bool false] (by kernel_rfl) ?_
        refine K.RW.nil ?_
        refine K.thn_normal ?_
        refine K.KW.ifF rfl ?_
        refine K.KW.skip ?_
        refine K.thn_normal ?_
        refine K.KW.seq ?_
        refine K.KW.seq ?_
        -- 32 :95
        refine K.KW.region ?_
        refine K.RW.qs [.bool false, .bool true, .bool true, .pointer (some ⟨r_4, 0, none⟩)] (by kernel_rfl) ?_
        refine K.RW.q rfl (by kernel_rfl) (K.QR.ld1 (v := .int .i64 8) rfl rfl (by kernel_rfl) ((hS.blk 2 rfl hg_6).cell rfl)) ?_
        refine K.RW.qs [.bool true, .bool true, .bool true, .pointer (some ⟨r_4, 0, none⟩)] (by kernel_rfl) ?_
        refine K.RW.q rfl (by kernel_rfl) (K.QR.ld1 (v := .int .i64 8) rfl rfl (by kernel_rfl) ((hS.blk 2 rfl hg_6).cell rfl)) ?_
        refine K.RW.qs [.bool true, .bool true] (by kernel_rfl) ?_
        refine K.RW.nil ?_
        refine K.thn_normal ?_
        refine K.KW.ifT rfl ?_
        refine K.KW.seq ?_
        -- 33 :96
        refine K.KW.region ?_
        refine K.RW.q rfl rfl (K.QR.ldN [.slice q qa.length cq, .slice s sa.length cs, .slice m ma.length cm] rfl rfl (by kernel_rfl) (by kernel_rfl) (K.cells (K.cl ((hS.blk 3 rfl hg_3).cell rfl) (K.cl ((hS.blk 3 rfl hg_3).cell rfl) (K.cl ((hS.blk 3 rfl hg_3).cell rfl) K.cl0))))) ?_
        refine K.RW.q rfl rfl (K.QR.bd [(0, .int .i64 4)] [.int .i64 4, .int .u32 0] rfl rfl (by kernel_rfl)) ?_
        refine K.RW.l rfl (K.OW.gst 1 [.slice q qa.length cq, .slice s sa.length cs, .slice m ma.length cm] [.slice q qa.length cq, .slice s sa.length cs, .slice m ma.length cm] hS hg_9 ?_)
        clear hS; intro w g_21 hg_22 hS
        replace hS : K.Sat w0 [g_11, g_21, g_5, g_2, g1, g2, g3, fr] w := hS
        refine K.RW.l rfl (K.OW.gst 0 [.int .i64 4, .int .u32 0] [.int .i64 4, .int .u32 0] hS hg_12 ?_)
        clear hS; intro w g_23 hg_24 hS
        replace hS : K.Sat w0 [g_23, g_21, g_5, g_2, g1, g2, g3, fr] w := hS
        refine K.RW.nil ?_
        refine K.thn_normal ?_
        refine K.KW.ret ?_
        refine K.thn_ret ?_
        have hany : anyT PairM.key key ma = false := by have h := hf; rw [List.take_of_length_le (by omega)] at h; exact h
        have hlast : vv = (lastT PairM.key key p0 ma).val := by have h := hv; rw [List.take_of_length_le (by omega)] at h; exact h
        have hA : applyT ⟨qa, sa, ma⟩ 8 key val = (⟨qa, sa, ma⟩, 4, 0) := by rw [apM hr2 (by decide), hany, ← hlast]; rfl
        rw [hA]
        refine ⟨.inr rfl, rfl, (.tuple #[.agg #[.slice q qa.length cq, .slice s sa.length cs, .slice m ma.length cm], .agg #[.int .i64 4, .int .u32 0]]), K.resAt (rs := [.cell 4 42, .cell 5 52]) [.agg #[.slice q qa.length cq, .slice s sa.length cs, .slice m ma.length cm], .agg #[.int .i64 4, .int .u32 0]] rfl ⟨⟨_, rfl, K.lvN [.slice q qa.length cq, .slice s sa.length cs, .slice m ma.length cm] (by kernel_rfl) (by kernel_rfl) (K.cells (K.cl ((hS.blk 1 rfl hg_22).cell rfl) (K.cl ((hS.blk 1 rfl hg_22).cell rfl) (K.cl ((hS.blk 1 rfl hg_22).cell rfl) K.cl0))))⟩, ⟨_, rfl, K.lvN [.int .i64 4, .int .u32 0] (by kernel_rfl) (by kernel_rfl) (K.cells (K.cl ((hS.blk 0 rfl hg_24).cell rfl) (K.cl ((hS.blk 0 rfl hg_24).cell rfl) K.cl0)))⟩, trivial⟩, [g1, g2, g3], ?_, hS.pick [4, 5, 6, 7]⟩
        exact ⟨q, cq, s, cs, m, cm, g1, g2, g3, rfl, rfl, x1, x2, x3, hc⟩
    ·
      refine K.KW.seq ?_
      refine K.KW.seq ?_
      -- 23 :83
      refine K.KW.region ?_
      refine K.RW.qs [.pointer (some ⟨r_4, 0, none⟩)] (by kernel_rfl) ?_
      refine K.RW.q rfl rfl (K.QR.ld1 (v := .int .i64 8) rfl rfl (by kernel_rfl) ((hS.blk 2 rfl hg_6).cell rfl)) ?_
      refine K.RW.qs [.bool true, .bool true, .pointer (some ⟨r_4, 0, none⟩)] (by kernel_rfl) ?_
      refine K.RW.q rfl (by kernel_rfl) (K.QR.ld1 (v := .int .i64 8) rfl rfl (by kernel_rfl) ((hS.blk 2 rfl hg_6).cell rfl)) ?_
      refine K.RW.qs [.bool true, .bool true, .bool true, .int .i64 ((j : Nat) : Int), .pointer (some ⟨r_1, 2, none⟩)] (by kernel_rfl) ?_
      refine K.RW.q rfl (by kernel_rfl) (K.QR.ld1 (v := .slice m ma.length cm) rfl rfl (by kernel_rfl) ((hS.blk 3 rfl hg_3).cell rfl)) ?_
      refine K.RW.q rfl (by kernel_rfl) (K.QR.len (P := Try.prog) rfl rfl Try.underlying40) ?_
      by_cases h_25 : (((j : Nat) : Int) : Int) < (((ma.length : Nat) : Int) : Int)
      ·  -- yes
        refine K.RW.q rfl (by kernel_rfl) (K.QR.nice (v := .bool (decide ((((j : Nat) : Int) : Int) < (((ma.length : Nat) : Int) : Int)))) (by kernel_rfl) (congrArg Value.bool (decide_eq_true h_25))) ?_
        refine K.RW.qs [.bool true] (by kernel_rfl) ?_
        refine K.RW.nil ?_
        refine K.thn_normal ?_
        refine K.KW.ifT rfl ?_
        refine K.KW.skip ?_
        refine K.thn_normal ?_
        refine K.KW.seq ?_
        refine K.KW.block ?_
        refine K.KW.seq ?_
        -- 25 :84
        obtain ⟨b_26, of_27, rfl, _⟩ := (x3 _ (hS.pick [6])).at_ (by omega)
        refine K.KW.gdrawn [3, 6] hS (by kernel_rfl) ?_
        clear hS; intro w hS
        refine K.DW.q 0 (by kernel_rfl) rfl rfl (by kernel_rfl) rfl (fun w hS => K.QR.k (v := .pointer (some ⟨r_1, 2, none⟩)) (by kernel_rfl)) (hS.pick [3, 6]) ?_
        refine K.DW.q 1 (by kernel_rfl) rfl rfl (by kernel_rfl) rfl (fun w hS => K.QR.ld1 (v := .slice (some ⟨b_26, of_27, none⟩) ma.length cm) rfl rfl (by kernel_rfl) ((hS.blk 0 rfl hg_3).cell rfl)) (hS.pick [3, 6]) ?_
        refine K.DW.q 2 (by kernel_rfl) rfl rfl (by kernel_rfl) rfl (fun w hS => K.QR.k (v := .int .i64 ((j : Nat) : Int)) (by kernel_rfl)) (hS.pick [3, 6]) ?_
        refine K.DW.q 3 (by kernel_rfl) rfl rfl (by kernel_rfl) rfl (fun w hS => K.QR.ix (of_27 + j * 2) 2 rfl rfl rfl Try.underlying40 (by kernel_rfl) (by omega) (by first | (simp; done) | omega | (simp; omega))) (hS.pick [3, 6]) ?_
        refine K.DW.q 4 (by kernel_rfl) rfl rfl (by kernel_rfl) rfl (fun w hS => K.QR.k (v := .pointer (some ⟨b_26, of_27 + j * 2, none⟩)) (by kernel_rfl)) (hS.pick [3, 6]) ?_
        refine K.DW.q 5 (by kernel_rfl) rfl rfl (by kernel_rfl) rfl (fun w hS => K.QR.ld1 (v := .int .u32 ((ma.getD j p0).key)) rfl rfl (by kernel_rfl) ((x3 _ (hS.pick [1])).ld j (by omega) 0 _ rfl)) (hS.pick [3, 6]) ?_
        refine K.DW.l 6 rfl (by kernel_rfl) rfl (K.OW.q rfl (K.QR.k (v := .pointer (some ⟨r_4, 1, none⟩)) (by kernel_rfl)) ?_)
        refine ⟨.inl (hS.pick [3, 6]), ?_⟩
        refine K.DW.l 7 rfl (by kernel_rfl) rfl (K.OW.q rfl (K.QR.ld1 (v := .int .u32 key) rfl rfl (by kernel_rfl) ((hS.blk 2 rfl hg_6).cell rfl)) ?_)
        refine ⟨.inl (hS.pick [3, 6]), ?_⟩
        by_cases h_28 : ((ma.getD j p0).key : Int) = (key : Int)
        ·  -- yes
          refine K.DW.l 8 rfl (by kernel_rfl) rfl (K.OW.q rfl (K.QR.nice (v := .bool (((ma.getD j p0).key : Int) == (key : Int))) (by kernel_rfl) (congrArg Value.bool (beq_iff_eq.2 h_28))) ?_)
          refine ⟨.inl (hS.pick [3, 6]), ?_⟩
          refine K.DW.done (by kernel_rfl) ?_
          refine K.thn_normal ?_
          refine K.KW.ifT rfl ?_
          refine K.KW.seq ?_
          -- 26 :85
          refine K.KW.region ?_
          refine K.RW.qs [.bool true] (by kernel_rfl) ?_
          refine K.RW.nil ?_
          refine K.thn_normal ?_
          -- 27 :86
          refine K.KW.region ?_
          refine K.RW.qs [.pointer (some ⟨r_1, 2, none⟩)] (by kernel_rfl) ?_
          refine K.RW.q rfl rfl (K.QR.ld1 (v := .slice (some ⟨b_26, of_27, none⟩) ma.length cm) rfl rfl (by kernel_rfl) ((hS.blk 3 rfl hg_3).cell rfl)) ?_
          refine K.RW.qs [.int .i64 ((j : Nat) : Int)] (by kernel_rfl) ?_
          refine K.RW.q rfl rfl (K.QR.ix (of_27 + j * 2) 2 rfl rfl rfl Try.underlying40 (by kernel_rfl) (by omega) (by first | (simp; done) | omega | (simp; omega))) ?_
          refine K.RW.qs [.pointer (some ⟨b_26, of_27 + j * 2 + 1, none⟩)] (by kernel_rfl) ?_
          refine K.RW.q rfl rfl (K.QR.ld1 (v := .int .u32 ((ma.getD j p0).val)) rfl rfl (by kernel_rfl) ((x3 _ (hS.pick [6])).ld j (by omega) 1 _ rfl)) ?_
          refine K.RW.qs [.int .u32 ((ma.getD j p0).val)] (by kernel_rfl) ?_
          refine K.RW.nil ?_
          refine K.blk_normal ?_
          refine K.thn_normal ?_
          -- 24 :83
          refine K.KW.region ?_
          refine K.RW.qs [.int .i64 ((j : Nat) : Int)] (by kernel_rfl) ?_
          refine K.RW.q rfl rfl (K.QR.n64 ((((j : Nat) : Int) : Int) + (1 : Int)) ((j + 1 : Nat) : Int) (by kernel_rfl) (by omega)) ?_
          refine K.RW.qs [.int .i64 ((j + 1 : Nat) : Int)] (by kernel_rfl) ?_
          refine K.RW.nil ?_
          refine K.thn_normal ?_
          refine ⟨_, ?_, j + 1, true, (ma.getD j p0).val, rfl, ⟨by rfl, by rfl, by rfl, by rfl, by rfl, by rfl, by rfl, by rfl, by rfl, by rfl, trivial⟩, (by omega), ((anyT_next (d := p0) hf (by omega)).trans (any_y2 _ (by assumption))), (last_y (by omega) (by assumption)), hS.pick [0, 1, 2, 3, 4, 5, 6, 7]⟩
          omega
        ·  -- no
          refine K.DW.l 8 rfl (by kernel_rfl) rfl (K.OW.q rfl (K.QR.nice (v := .bool (((ma.getD j p0).key : Int) == (key : Int))) (by kernel_rfl) (congrArg Value.bool (beq_eq_false_iff_ne.2 h_28))) ?_)
          refine ⟨.inl (hS.pick [3, 6]), ?_⟩
          refine K.DW.done (by kernel_rfl) ?_
          refine K.thn_normal ?_
          refine K.KW.ifF rfl ?_
          refine K.KW.skip ?_
          refine K.blk_normal ?_
          refine K.thn_normal ?_
          -- 24 :83
          refine K.KW.region ?_
          refine K.RW.qs [.int .i64 ((j : Nat) : Int)] (by kernel_rfl) ?_
          refine K.RW.q rfl rfl (K.QR.n64 ((((j : Nat) : Int) : Int) + (1 : Int)) ((j + 1 : Nat) : Int) (by kernel_rfl) (by omega)) ?_
          refine K.RW.qs [.int .i64 ((j + 1 : Nat) : Int)] (by kernel_rfl) ?_
          refine K.RW.nil ?_
          refine K.thn_normal ?_
          refine ⟨_, ?_, j + 1, true, vv, rfl, ⟨by rfl, by rfl, by rfl, by rfl, by rfl, by rfl, by rfl, by rfl, by rfl, by rfl, trivial⟩, (by omega), ((anyT_next (d := p0) hf (by omega)).trans (any_n2 _ (by assumption))), (last_n hv (by omega) (by assumption)), hS.pick [0, 1, 2, 3, 4, 5, 6, 7]⟩
          omega
      ·  -- no
        refine K.RW.q rfl (by kernel_rfl) (K.QR.nice (v := .bool (decide ((((j : Nat) : Int) : Int) < (((ma.length : Nat) : Int) : Int)))) (by kernel_rfl) (congrArg Value.bool (decide_eq_false h_25))) ?_
        refine K.RW.qs [.bool false] (by kernel_rfl) ?_
        refine K.RW.nil ?_
        refine K.thn_normal ?_
        refine K.KW.ifF rfl ?_
        refine K.KW.exit ?_
        refine K.thn_exit ?_
        refine K.thn_exit ?_
        refine K.blk_hit ?_
        refine K.thn_normal ?_
        refine K.KW.seq ?_
        refine K.KW.seq ?_
        -- 28 :89
        refine K.KW.region ?_
        refine K.RW.qs [.pointer (some ⟨r_4, 0, none⟩)] (by kernel_rfl) ?_
        refine K.RW.q rfl rfl (K.QR.ld1 (v := .int .i64 8) rfl rfl (by kernel_rfl) ((hS.blk 2 rfl hg_6).cell rfl)) ?_
        refine K.RW.qs [.bool false, .bool false, .pointer (some ⟨r_4, 0, none⟩)] (by kernel_rfl) ?_
        refine K.RW.q rfl (by kernel_rfl) (K.QR.ld1 (v := .int .i64 8) rfl rfl (by kernel_rfl) ((hS.blk 2 rfl hg_6).cell rfl)) ?_
        refine K.RW.qs [.bool false, .bool false] (by kernel_rfl) ?_
        refine K.RW.nil ?_
        refine K.thn_normal ?_
        refine K.KW.ifF rfl ?_
        refine K.KW.skip ?_
        refine K.thn_normal ?_
        refine K.KW.seq ?_
        refine K.KW.seq ?_
        -- 30 :92
        refine K.KW.region ?_
        refine K.RW.qs [.bool true, .bool true, .pointer (some ⟨r_4, 0, none⟩)] (by kernel_rfl) ?_
        refine K.RW.q rfl (by kernel_rfl) (K.QR.ld1 (v := .int .i64 8) rfl rfl (by kernel_rfl) ((hS.blk 2 rfl hg_6).cell rfl)) ?_
        refine K.RW.qs [.bool true, .bool true, .bool true, .pointer (some ⟨r_4, 0, none⟩)] (by kernel_rfl) ?_
        refine K.RW.q rfl (by kernel_rfl) (K.QR.ld1 (v := .int .i64 8) rfl rfl (by kernel_rfl) ((hS.blk 2 rfl hg_6).cell rfl)) ?_
        refine K.RW.qs [.bool false, .bool false] (by kernel_rfl) ?_
        refine K.RW.nil ?_
        refine K.thn_normal ?_
        refine K.KW.ifF rfl ?_
        refine K.KW.skip ?_
        refine K.thn_normal ?_
        refine K.KW.seq ?_
        refine K.KW.seq ?_
        -- 32 :95
        refine K.KW.region ?_
        refine K.RW.qs [.bool true, .bool false, .bool false] (by kernel_rfl) ?_
        refine K.RW.skip rfl (by kernel_rfl) ?_
        refine K.RW.skip rfl (by kernel_rfl) ?_
        refine K.RW.skip rfl (by kernel_rfl) ?_
        refine K.RW.qs [.bool false, .bool false] (by kernel_rfl) ?_
        refine K.RW.skip rfl (by kernel_rfl) ?_
        refine K.RW.skip rfl (by kernel_rfl) ?_
        refine K.RW.skip rfl (by kernel_rfl) ?_
        refine K.RW.qs [.bool false] (by kernel_rfl) ?_
        refine K.RW.nil ?_
        refine K.thn_normal ?_
        refine K.KW.ifF rfl ?_
        refine K.KW.skip ?_
        refine K.thn_normal ?_
        refine K.KW.seq ?_
        refine K.KW.seq ?_
        -- 34 :98
        refine K.KW.region ?_
        refine K.RW.qs [.pointer (some ⟨r_4, 0, none⟩)] (by kernel_rfl) ?_
        refine K.RW.q rfl rfl (K.QR.ld1 (v := .int .i64 8) rfl rfl (by kernel_rfl) ((hS.blk 2 rfl hg_6).cell rfl)) ?_
        refine K.RW.qs [.bool false] (by kernel_rfl) ?_
        refine K.RW.nil ?_
        refine K.thn_normal ?_
        refine K.KW.ifF rfl ?_
        refine K.KW.skip ?_
        refine K.thn_normal ?_
        refine K.KW.seq ?_
        -- 37 :102
        refine K.KW.region ?_
        refine K.RW.qs [.pointer (some ⟨r_1, 2, none⟩)] (by kernel_rfl) ?_
        refine K.RW.q rfl rfl (K.QR.ld1 (v := .slice m ma.length cm) rfl rfl (by kernel_rfl) ((hS.blk 3 rfl hg_3).cell rfl)) ?_
        refine K.RW.qs [.pointer (some ⟨r_4, 1, none⟩)] (by kernel_rfl) ?_
        refine K.RW.q rfl rfl (K.QR.ld1 (v := .int .u32 key) rfl rfl (by kernel_rfl) ((hS.blk 2 rfl hg_6).cell rfl)) ?_
        refine K.RW.qs [.pointer (some ⟨r_4, 2, none⟩)] (by kernel_rfl) ?_
        refine K.RW.q rfl rfl (K.QR.ld1 (v := .int .u32 val) rfl rfl (by kernel_rfl) ((hS.blk 2 rfl hg_6).cell rfl)) ?_
        refine K.RW.q rfl rfl (K.QR.bd [(0, .int .u32 key), (1, .int .u32 val)] [.int .u32 key, .int .u32 val] rfl rfl (by kernel_rfl)) ?_
        refine K.RW.qs [.pointer (some ⟨r_4, 0, none⟩)] (by kernel_rfl) ?_
        refine K.RW.q rfl rfl (K.QR.ld1 (v := .int .i64 8) rfl rfl (by kernel_rfl) ((hS.blk 2 rfl hg_6).cell rfl)) ?_
        refine K.RW.qs [.bool false] (by kernel_rfl) ?_
        refine K.RW.l rfl (K.OW.gcall hS [6] [0, 1, 2, 3, 4, 5, 7] [.slice m ma.length cm, .agg #[.int .u32 key, .int .u32 val], .bool false] (prsF_ok _ _ _ ma key val (by omega) _ x3) ?_)
        clear hS; rintro _ _ w ⟨r_29, c_30, l_31, rfl, rfl, o_32⟩ hS
        replace hS : K.Sat w0 [g3, l_31, g_11, g_8, g_5, g_2, g1, g2, fr] w := hS
        refine K.RW.qs [.pointer (some ⟨r_1, 2, none⟩)] (by kernel_rfl) ?_
        refine K.RW.l rfl (K.OW.gst 5 [.slice r_29 ((keysR PairM.key key ⟨key, val⟩ false ma).length) c_30] [.slice q qa.length cq, .slice s sa.length cs, .slice r_29 ((keysR PairM.key key ⟨key, val⟩ false ma).length) c_30] hS hg_3 ?_)
        clear hS; intro w g_33 hg_34 hS
        replace hS : K.Sat w0 [g3, l_31, g_11, g_8, g_5, g_33, g1, g2, fr] w := hS
        refine K.RW.nil ?_
        refine K.thn_normal ?_
        refine K.KW.seq ?_
        -- 38 :103
        refine K.KW.region ?_
        refine K.RW.q rfl rfl (K.QR.ldN [.slice q qa.length cq, .slice s sa.length cs, .slice r_29 ((keysR PairM.key key ⟨key, val⟩ false ma).length) c_30] rfl rfl (by kernel_rfl) (by kernel_rfl) (K.cells (K.cl ((hS.blk 5 rfl hg_34).cell rfl) (K.cl ((hS.blk 5 rfl hg_34).cell rfl) (K.cl ((hS.blk 5 rfl hg_34).cell rfl) K.cl0))))) ?_
        refine K.RW.qs [.int .u32 vv] (by kernel_rfl) ?_
        refine K.RW.q rfl rfl (K.QR.bd [(0, .int .i64 1), (1, .int .u32 vv)] [.int .i64 1, .int .u32 vv] rfl rfl (by kernel_rfl)) ?_
        refine K.RW.l rfl (K.OW.gst 3 [.slice q qa.length cq, .slice s sa.length cs, .slice r_29 ((keysR PairM.key key ⟨key, val⟩ false ma).length) c_30] [.slice q qa.length cq, .slice s sa.length cs, .slice r_29 ((keysR PairM.key key ⟨key, val⟩ false ma).length) c_30] hS hg_9 ?_)
        clear hS; intro w g_35 hg_36 hS
        replace hS : K.Sat w0 [g3, l_31, g_11, g_35, g_5, g_33, g1, g2, fr] w := hS
        refine K.RW.l rfl (K.OW.gst 2 [.int .i64 1, .int .u32 vv] [.int .i64 1, .int .u32 vv] hS hg_12 ?_)
        clear hS; intro w g_37 hg_38 hS
        replace hS : K.Sat w0 [g3, l_31, g_37, g_35, g_5, g_33, g1, g2, fr] w := hS
        refine K.RW.nil ?_
        refine K.thn_normal ?_
        refine K.KW.ret ?_
        have hany : anyT PairM.key key ma = true := by have h := hf; rw [List.take_of_length_le (by omega)] at h; exact h
        have hlast : vv = (lastT PairM.key key p0 ma).val := by have h := hv; rw [List.take_of_length_le (by omega)] at h; exact h
        have hA : applyT ⟨qa, sa, ma⟩ 8 key val = (⟨qa, sa, (keysR PairM.key key ⟨key, val⟩ false ma)⟩, 1, vv) := by rw [apM hr2 (by decide), hany, ← hlast]; rfl
        rw [hA]
        refine ⟨.inr rfl, rfl, (.tuple #[.agg #[.slice q qa.length cq, .slice s sa.length cs, .slice r_29 ((keysR PairM.key key ⟨key, val⟩ false ma).length) c_30], .agg #[.int .i64 1, .int .u32 vv]]), K.resAt (rs := [.cell 4 42, .cell 5 52]) [.agg #[.slice q qa.length cq, .slice s sa.length cs, .slice r_29 ((keysR PairM.key key ⟨key, val⟩ false ma).length) c_30], .agg #[.int .i64 1, .int .u32 vv]] rfl ⟨⟨_, rfl, K.lvN [.slice q qa.length cq, .slice s sa.length cs, .slice r_29 ((keysR PairM.key key ⟨key, val⟩ false ma).length) c_30] (by kernel_rfl) (by kernel_rfl) (K.cells (K.cl ((hS.blk 3 rfl hg_36).cell rfl) (K.cl ((hS.blk 3 rfl hg_36).cell rfl) (K.cl ((hS.blk 3 rfl hg_36).cell rfl) K.cl0))))⟩, ⟨_, rfl, K.lvN [.int .i64 1, .int .u32 vv] (by kernel_rfl) (by kernel_rfl) (K.cells (K.cl ((hS.blk 2 rfl hg_38).cell rfl) (K.cl ((hS.blk 2 rfl hg_38).cell rfl) K.cl0)))⟩, trivial⟩, [g1, g2, l_31], ?_, hS.pick [6, 7, 1, 8]⟩
        exact ⟨q, cq, s, cs, r_29, c_30, g1, g2, l_31, rfl, rfl, x1, x2, rdP_own o_32 rfl, hc⟩

set_option maxHeartbeats 1000000 in
set_option maxRecDepth 100000 in
theorem rapplyN_ok (w0 : World) (q s m : Option Addr) (cq cs cm : Nat) (qa sa : List Int) (ma : List PairM) (kind key val : Int) (hkk : ¬(1 ≤ kind ∧ kind ≤ 8)) (h1 : qa.length ≤ 1000000) (h2 : sa.length ≤ 1000000) (h3 : ma.length ≤ 1000000) (hr1 : rising sa) (hr2 : rising (keysP ma)) (hc : qa.length ≤ cq) (g1 : K.Cs) (x1 : ∀ w, K.Sat w0 [g1] w → K.RowE w q qa.length 1 (fun i => cU32 (qa.getD i 0))) (g2 : K.Cs) (x2 : ∀ w, K.Sat w0 [g2] w → K.RowE w s sa.length 1 (fun i => cU32 (sa.getD i 0))) (g3 : K.Cs) (x3 : ∀ w, K.Sat w0 [g3] w → K.RowE w m ma.length 2 (fun i => cPair (ma.getD i p0))) :
    K.GC Try.prog w0 33 #[.agg #[.slice q qa.length cq, .slice s sa.length cs, .slice m ma.length cm], .agg #[.int .i64 kind, .int .u32 key, .int .u32 val]] [g1, g2, g3] (ApR w0 (applyT ⟨qa, sa, ma⟩ kind key val)) := by
  refine K.GC.mk (n := 192) Try.func33 rfl rfl [.agg #[.slice q qa.length cq, .slice s sa.length cs, .slice m ma.length cm], .agg #[.int .i64 kind, .int .u32 key, .int .u32 val]] rfl rfl ?_
  intro fr w hS
  replace hS : K.Sat w0 [g1, g2, g3, fr] w := hS
  refine K.KW.seq ?_
  -- 0 :60
  refine K.KW.region ?_
  refine K.RW.l rfl (K.OW.gnew 42 [.slice q qa.length cq, .slice s sa.length cs, .slice m ma.length cm] hS ?_)
  clear hS; intro w r_1 g_2 hg_3 hS
  refine K.RW.l rfl (K.OW.gnew 45 [.int .i64 kind, .int .u32 key, .int .u32 val] hS ?_)
  clear hS; intro w r_4 g_5 hg_6 hS
  refine K.RW.l rfl (K.OW.gnew 42 [.slice none 0 0, .slice none 0 0, .slice none 0 0] hS ?_)
  clear hS; intro w r_7 g_8 hg_9 hS
  refine K.RW.l rfl (K.OW.gnew 52 [.int .i64 0, .int .u32 0] hS ?_)
  clear hS; intro w r_10 g_11 hg_12 hS
  refine K.RW.nil ?_
  refine K.thn_normal ?_
  refine K.KW.seq ?_
  refine K.KW.seq ?_
  -- 1 :61
  refine K.KW.region ?_
  refine K.RW.qs [.pointer (some ⟨r_4, 0, none⟩)] (by kernel_rfl) ?_
  refine K.RW.q rfl rfl (K.QR.ld1 (v := .int .i64 kind) rfl rfl (by kernel_rfl) ((hS.blk 2 rfl hg_6).cell rfl)) ?_
  refine K.RW.q rfl rfl (K.QR.nice (v := .bool ((kind : Int) == (1 : Int))) (by kernel_rfl) (congrArg Value.bool (beq_eq_false_iff_ne.2 (by omega)))) ?_
  refine K.RW.nil ?_
  refine K.thn_normal ?_
  refine K.KW.ifF rfl ?_
  refine K.KW.skip ?_
  refine K.thn_normal ?_
  refine K.KW.seq ?_
  refine K.KW.seq ?_
  -- 10 :70
  refine K.KW.region ?_
  refine K.RW.qs [.pointer (some ⟨r_4, 0, none⟩)] (by kernel_rfl) ?_
  refine K.RW.q rfl rfl (K.QR.ld1 (v := .int .i64 kind) rfl rfl (by kernel_rfl) ((hS.blk 2 rfl hg_6).cell rfl)) ?_
  refine K.RW.q rfl rfl (K.QR.nice (v := .bool ((kind : Int) == (2 : Int))) (by kernel_rfl) (congrArg Value.bool (beq_eq_false_iff_ne.2 (by omega)))) ?_
  refine K.RW.qs [.bool false] (by kernel_rfl) ?_
  refine K.RW.skip rfl (by kernel_rfl) ?_
  refine K.RW.skip rfl (by kernel_rfl) ?_
  refine K.RW.skip rfl (by kernel_rfl) ?_
  refine K.RW.skip rfl (by kernel_rfl) ?_
  refine K.RW.qs [.bool false] (by kernel_rfl) ?_
  refine K.RW.nil ?_
  refine K.thn_normal ?_
  refine K.KW.ifF rfl ?_
  refine K.KW.skip ?_
  refine K.thn_normal ?_
  refine K.KW.seq ?_
  refine K.KW.seq ?_
  -- 12 :73
  refine K.KW.region ?_
  refine K.RW.qs [.pointer (some ⟨r_4, 0, none⟩)] (by kernel_rfl) ?_
  refine K.RW.q rfl rfl (K.QR.ld1 (v := .int .i64 kind) rfl rfl (by kernel_rfl) ((hS.blk 2 rfl hg_6).cell rfl)) ?_
  refine K.RW.q rfl rfl (K.QR.nice (v := .bool ((kind : Int) == (2 : Int))) (by kernel_rfl) (congrArg Value.bool (beq_eq_false_iff_ne.2 (by omega)))) ?_
  refine K.RW.nil ?_
  refine K.thn_normal ?_
  refine K.KW.ifF rfl ?_
  refine K.KW.skip ?_
  refine K.thn_normal ?_
  refine K.KW.seq ?_
  -- 16 :78
  refine K.KW.region ?_
  refine K.RW.qs [.bool false] (by kernel_rfl) ?_
  refine K.RW.nil ?_
  refine K.thn_normal ?_
  refine K.KW.seq ?_
  refine K.KW.seq ?_
  -- 17 :79
  refine K.KW.region ?_
  refine K.RW.qs [.int .i64 0] (by kernel_rfl) ?_
  refine K.RW.nil ?_
  refine K.thn_normal ?_
  refine K.KW.block ?_
  refine K.KW.unr 0 ?_
  refine K.Unr.zero ?_
  refine K.KW.seq ?_
  refine K.KW.seq ?_
  -- 18 :79
  refine K.KW.region ?_
  refine K.RW.qs [.pointer (some ⟨r_4, 0, none⟩)] (by kernel_rfl) ?_
  refine K.RW.q rfl rfl (K.QR.ld1 (v := .int .i64 kind) rfl rfl (by kernel_rfl) ((hS.blk 2 rfl hg_6).cell rfl)) ?_
  by_cases h_13 : (kind : Int) ≥ (3 : Int)
  ·  -- yes
    refine K.RW.q rfl rfl (K.QR.nice (v := .bool (decide ((kind : Int) ≥ (3 : Int)))) (by kernel_rfl) (congrArg Value.bool (decide_eq_true h_13))) ?_
    refine K.RW.qs [.bool true, .pointer (some ⟨r_4, 0, none⟩)] (by kernel_rfl) ?_
    refine K.RW.q rfl (by kernel_rfl) (K.QR.ld1 (v := .int .i64 kind) rfl rfl (by kernel_rfl) ((hS.blk 2 rfl hg_6).cell rfl)) ?_
    refine K.RW.q rfl (by kernel_rfl) (K.QR.nice (v := .bool (decide ((kind : Int) ≤ (5 : Int)))) (by kernel_rfl) (congrArg Value.bool (decide_eq_false (by omega)))) ?_
    refine K.RW.qs [.bool false, .bool false] (by kernel_rfl) ?_
    refine K.RW.skip rfl (by kernel_rfl) ?_
    refine K.RW.skip rfl (by kernel_rfl) ?_
    refine K.RW.skip rfl (by kernel_rfl) ?_
    refine K.RW.skip rfl (by kernel_rfl) ?_
    refine K.RW.skip rfl (by kernel_rfl) ?_
    refine K.RW.qs [.bool false] (by kernel_rfl) ?_
    refine K.RW.nil ?_
    refine K.thn_normal ?_
    refine K.KW.ifF rfl ?_
    refine K.KW.exit ?_
    refine K.thn_exit ?_
    refine K.thn_exit ?_
    refine K.blk_hit ?_
    refine K.thn_normal ?_
    refine K.KW.seq ?_
    -- 21 :82
    refine K.KW.region ?_
    refine K.RW.qs [.int .u32 0] (by kernel_rfl) ?_
    refine K.RW.nil ?_
    refine K.thn_normal ?_
    refine K.KW.seq ?_
    refine K.KW.seq ?_
    -- 22 :83
    refine K.KW.region ?_
    refine K.RW.qs [.int .i64 0] (by kernel_rfl) ?_
    refine K.RW.nil ?_
    refine K.thn_normal ?_
    refine K.KW.block ?_
    refine K.KW.unr 0 ?_
    refine K.Unr.zero ?_
    refine K.KW.seq ?_
    refine K.KW.seq ?_
    -- 23 :83
    refine K.KW.region ?_
    refine K.RW.qs [.pointer (some ⟨r_4, 0, none⟩)] (by kernel_rfl) ?_
    refine K.RW.q rfl rfl (K.QR.ld1 (v := .int .i64 kind) rfl rfl (by kernel_rfl) ((hS.blk 2 rfl hg_6).cell rfl)) ?_
    by_cases h_14 : (kind : Int) ≥ (6 : Int)
    ·  -- yes
      refine K.RW.q rfl rfl (K.QR.nice (v := .bool (decide ((kind : Int) ≥ (6 : Int)))) (by kernel_rfl) (congrArg Value.bool (decide_eq_true h_14))) ?_
      refine K.RW.qs [.bool true, .pointer (some ⟨r_4, 0, none⟩)] (by kernel_rfl) ?_
      refine K.RW.q rfl (by kernel_rfl) (K.QR.ld1 (v := .int .i64 kind) rfl rfl (by kernel_rfl) ((hS.blk 2 rfl hg_6).cell rfl)) ?_
      refine K.RW.q rfl (by kernel_rfl) (K.QR.nice (v := .bool (decide ((kind : Int) ≤ (8 : Int)))) (by kernel_rfl) (congrArg Value.bool (decide_eq_false (by omega)))) ?_
      refine K.RW.qs [.bool false, .bool false] (by kernel_rfl) ?_
      refine K.RW.skip rfl (by kernel_rfl) ?_
      refine K.RW.skip rfl (by kernel_rfl) ?_
      refine K.RW.skip rfl (by kernel_rfl) ?_
      refine K.RW.skip rfl (by kernel_rfl) ?_
      refine K.RW.skip rfl (by kernel_rfl) ?_
      refine K.RW.qs [.bool false] (by kernel_rfl) ?_
      refine K.RW.nil ?_
      refine K.thn_normal ?_
      refine K.KW.ifF rfl ?_
      refine K.KW.exit ?_
      refine K.thn_exit ?_
      refine K.thn_exit ?_
      refine K.blk_hit ?_
      refine K.thn_normal ?_
      refine K.KW.seq ?_
      refine K.KW.seq ?_
      -- 28 :89
      refine K.KW.region ?_
      refine K.RW.qs [.pointer (some ⟨r_4, 0, none⟩)] (by kernel_rfl) ?_
      refine K.RW.q rfl rfl (K.QR.ld1 (v := .int .i64 kind) rfl rfl (by kernel_rfl) ((hS.blk 2 rfl hg_6).cell rfl)) ?_
      by_cases h_15 : (kind : Int) < (3 : Int)
      ·  -- yes
        refine K.RW.q rfl rfl (K.QR.nice (v := .bool (decide ((kind : Int) < (3 : Int)))) (by kernel_rfl) (congrArg Value.bool (decide_eq_true h_15))) ?_
        refine K.RW.qs [.bool true] (by kernel_rfl) ?_
        refine K.RW.skip rfl (by kernel_rfl) ?_
        refine K.RW.skip rfl (by kernel_rfl) ?_
        refine K.RW.skip rfl (by kernel_rfl) ?_
        refine K.RW.qs [.bool true] (by kernel_rfl) ?_
        refine K.RW.nil ?_
        refine K.thn_normal ?_
        refine K.KW.ifT rfl ?_
        refine K.KW.seq ?_
        -- 29 :90
        refine K.KW.region ?_
        refine K.RW.q rfl rfl (K.QR.ldN [.slice q qa.length cq, .slice s sa.length cs, .slice m ma.length cm] rfl rfl (by kernel_rfl) (by kernel_rfl) (K.cells (K.cl ((hS.blk 3 rfl hg_3).cell rfl) (K.cl ((hS.blk 3 rfl hg_3).cell rfl) (K.cl ((hS.blk 3 rfl hg_3).cell rfl) K.cl0))))) ?_
        refine K.RW.q rfl rfl (K.QR.bd [] [.int .i64 0, .int .u32 0] rfl rfl (by kernel_rfl)) ?_
        refine K.RW.l rfl (K.OW.gst 1 [.slice q qa.length cq, .slice s sa.length cs, .slice m ma.length cm] [.slice q qa.length cq, .slice s sa.length cs, .slice m ma.length cm] hS hg_9 ?_)
        clear hS; intro w g_16 hg_17 hS
        replace hS : K.Sat w0 [g_11, g_16, g_5, g_2, g1, g2, g3, fr] w := hS
        refine K.RW.l rfl (K.OW.gst 0 [.int .i64 0, .int .u32 0] [.int .i64 0, .int .u32 0] hS hg_12 ?_)
        clear hS; intro w g_18 hg_19 hS
        replace hS : K.Sat w0 [g_18, g_16, g_5, g_2, g1, g2, g3, fr] w := hS
        refine K.RW.nil ?_
        refine K.thn_normal ?_
        refine K.KW.ret ?_
        refine K.thn_ret ?_
        have hA : applyT ⟨qa, sa, ma⟩ kind key val = (⟨qa, sa, ma⟩, 0, 0) := apN (by omega)
        rw [hA]
        refine ⟨.inr rfl, rfl, (.tuple #[.agg #[.slice q qa.length cq, .slice s sa.length cs, .slice m ma.length cm], .agg #[.int .i64 0, .int .u32 0]]), K.resAt (rs := [.cell 4 42, .cell 5 52]) [.agg #[.slice q qa.length cq, .slice s sa.length cs, .slice m ma.length cm], .agg #[.int .i64 0, .int .u32 0]] rfl ⟨⟨_, rfl, K.lvN [.slice q qa.length cq, .slice s sa.length cs, .slice m ma.length cm] (by kernel_rfl) (by kernel_rfl) (K.cells (K.cl ((hS.blk 1 rfl hg_17).cell rfl) (K.cl ((hS.blk 1 rfl hg_17).cell rfl) (K.cl ((hS.blk 1 rfl hg_17).cell rfl) K.cl0))))⟩, ⟨_, rfl, K.lvN [.int .i64 0, .int .u32 0] (by kernel_rfl) (by kernel_rfl) (K.cells (K.cl ((hS.blk 0 rfl hg_19).cell rfl) (K.cl ((hS.blk 0 rfl hg_19).cell rfl) K.cl0)))⟩, trivial⟩, [g1, g2, g3], ?_, hS.pick [4, 5, 6, 7]⟩
        exact ⟨q, cq, s, cs, m, cm, g1, g2, g3, rfl, rfl, x1, x2, x3, hc⟩
      ·  -- no
        refine K.RW.q rfl rfl (K.QR.nice (v := .bool (decide ((kind : Int) < (3 : Int)))) (by kernel_rfl) (congrArg Value.bool (decide_eq_false h_15))) ?_
        refine K.RW.qs [.bool false, .pointer (some ⟨r_4, 0, none⟩)] (by kernel_rfl) ?_
        refine K.RW.q rfl (by kernel_rfl) (K.QR.ld1 (v := .int .i64 kind) rfl rfl (by kernel_rfl) ((hS.blk 2 rfl hg_6).cell rfl)) ?_
        by_cases h_20 : (kind : Int) > (8 : Int)
        ·  -- yes
          refine K.RW.q rfl (by kernel_rfl) (K.QR.nice (v := .bool (decide ((kind : Int) > (8 : Int)))) (by kernel_rfl) (congrArg Value.bool (decide_eq_true h_20))) ?_
          refine K.RW.qs [.bool true] (by kernel_rfl) ?_
          refine K.RW.nil ?_
          refine K.thn_normal ?_
          refine K.KW.ifT rfl ?_
          refine K.KW.seq ?_
          -- 29 :90
          refine K.KW.region ?_
          refine K.RW.q rfl rfl (K.QR.ldN [.slice q qa.length cq, .slice s sa.length cs, .slice m ma.length cm] rfl rfl (by kernel_rfl) (by kernel_rfl) (K.cells (K.cl ((hS.blk 3 rfl hg_3).cell rfl) (K.cl ((hS.blk 3 rfl hg_3).cell rfl) (K.cl ((hS.blk 3 rfl hg_3).cell rfl) K.cl0))))) ?_
          refine K.RW.q rfl rfl (K.QR.bd [] [.int .i64 0, .int .u32 0] rfl rfl (by kernel_rfl)) ?_
          refine K.RW.l rfl (K.OW.gst 1 [.slice q qa.length cq, .slice s sa.length cs, .slice m ma.length cm] [.slice q qa.length cq, .slice s sa.length cs, .slice m ma.length cm] hS hg_9 ?_)
          clear hS; intro w g_21 hg_22 hS
          replace hS : K.Sat w0 [g_11, g_21, g_5, g_2, g1, g2, g3, fr] w := hS
          refine K.RW.l rfl (K.OW.gst 0 [.int .i64 0, .int .u32 0] [.int .i64 0, .int .u32 0] hS hg_12 ?_)
          clear hS; intro w g_23 hg_24 hS
          replace hS : K.Sat w0 [g_23, g_21, g_5, g_2, g1, g2, g3, fr] w := hS
          refine K.RW.nil ?_
          refine K.thn_normal ?_
          refine K.KW.ret ?_
          refine K.thn_ret ?_
          have hA : applyT ⟨qa, sa, ma⟩ kind key val = (⟨qa, sa, ma⟩, 0, 0) := apN (by omega)
          rw [hA]
          refine ⟨.inr rfl, rfl, (.tuple #[.agg #[.slice q qa.length cq, .slice s sa.length cs, .slice m ma.length cm], .agg #[.int .i64 0, .int .u32 0]]), K.resAt (rs := [.cell 4 42, .cell 5 52]) [.agg #[.slice q qa.length cq, .slice s sa.length cs, .slice m ma.length cm], .agg #[.int .i64 0, .int .u32 0]] rfl ⟨⟨_, rfl, K.lvN [.slice q qa.length cq, .slice s sa.length cs, .slice m ma.length cm] (by kernel_rfl) (by kernel_rfl) (K.cells (K.cl ((hS.blk 1 rfl hg_22).cell rfl) (K.cl ((hS.blk 1 rfl hg_22).cell rfl) (K.cl ((hS.blk 1 rfl hg_22).cell rfl) K.cl0))))⟩, ⟨_, rfl, K.lvN [.int .i64 0, .int .u32 0] (by kernel_rfl) (by kernel_rfl) (K.cells (K.cl ((hS.blk 0 rfl hg_24).cell rfl) (K.cl ((hS.blk 0 rfl hg_24).cell rfl) K.cl0)))⟩, trivial⟩, [g1, g2, g3], ?_, hS.pick [4, 5, 6, 7]⟩
          exact ⟨q, cq, s, cs, m, cm, g1, g2, g3, rfl, rfl, x1, x2, x3, hc⟩
        ·  -- no
          refine K.RW.q rfl (by kernel_rfl) (K.QR.nice (v := .bool (decide ((kind : Int) > (8 : Int)))) (by kernel_rfl) (congrArg Value.bool (decide_eq_false h_20))) ?_
          refine K.RW.qs [.bool false] (by kernel_rfl) ?_
          refine K.RW.nil ?_
          refine K.thn_normal ?_
          refine K.KW.ifF rfl ?_
          refine K.KW.skip ?_
          refine K.thn_normal ?_
          refine K.KW.seq ?_
          refine K.KW.seq ?_
          -- 30 :92
          exfalso
          omega
    ·  -- no
      refine K.RW.q rfl rfl (K.QR.nice (v := .bool (decide ((kind : Int) ≥ (6 : Int)))) (by kernel_rfl) (congrArg Value.bool (decide_eq_false h_14))) ?_
      refine K.RW.qs [.bool false] (by kernel_rfl) ?_
      refine K.RW.skip rfl (by kernel_rfl) ?_
      refine K.RW.skip rfl (by kernel_rfl) ?_
      refine K.RW.skip rfl (by kernel_rfl) ?_
      refine K.RW.qs [.bool false, .bool false] (by kernel_rfl) ?_
      refine K.RW.skip rfl (by kernel_rfl) ?_
      refine K.RW.skip rfl (by kernel_rfl) ?_
      refine K.RW.skip rfl (by kernel_rfl) ?_
      refine K.RW.skip rfl (by kernel_rfl) ?_
      refine K.RW.skip rfl (by kernel_rfl) ?_
      refine K.RW.qs [.bool false] (by kernel_rfl) ?_
      refine K.RW.nil ?_
      refine K.thn_normal ?_
      refine K.KW.ifF rfl ?_
      refine K.KW.exit ?_
      refine K.thn_exit ?_
      refine K.thn_exit ?_
      refine K.blk_hit ?_
      refine K.thn_normal ?_
      refine K.KW.seq ?_
      refine K.KW.seq ?_
      -- 28 :89
      refine K.KW.region ?_
      refine K.RW.qs [.pointer (some ⟨r_4, 0, none⟩)] (by kernel_rfl) ?_
      refine K.RW.q rfl rfl (K.QR.ld1 (v := .int .i64 kind) rfl rfl (by kernel_rfl) ((hS.blk 2 rfl hg_6).cell rfl)) ?_
      by_cases h_25 : (kind : Int) < (3 : Int)
      ·  -- yes
        refine K.RW.q rfl rfl (K.QR.nice (v := .bool (decide ((kind : Int) < (3 : Int)))) (by kernel_rfl) (congrArg Value.bool (decide_eq_true h_25))) ?_
        refine K.RW.qs [.bool true] (by kernel_rfl) ?_
        refine K.RW.skip rfl (by kernel_rfl) ?_
        refine K.RW.skip rfl (by kernel_rfl) ?_
        refine K.RW.skip rfl (by kernel_rfl) ?_
        refine K.RW.qs [.bool true] (by kernel_rfl) ?_
        refine K.RW.nil ?_
        refine K.thn_normal ?_
        refine K.KW.ifT rfl ?_
        refine K.KW.seq ?_
        -- 29 :90
        refine K.KW.region ?_
        refine K.RW.q rfl rfl (K.QR.ldN [.slice q qa.length cq, .slice s sa.length cs, .slice m ma.length cm] rfl rfl (by kernel_rfl) (by kernel_rfl) (K.cells (K.cl ((hS.blk 3 rfl hg_3).cell rfl) (K.cl ((hS.blk 3 rfl hg_3).cell rfl) (K.cl ((hS.blk 3 rfl hg_3).cell rfl) K.cl0))))) ?_
        refine K.RW.q rfl rfl (K.QR.bd [] [.int .i64 0, .int .u32 0] rfl rfl (by kernel_rfl)) ?_
        refine K.RW.l rfl (K.OW.gst 1 [.slice q qa.length cq, .slice s sa.length cs, .slice m ma.length cm] [.slice q qa.length cq, .slice s sa.length cs, .slice m ma.length cm] hS hg_9 ?_)
        clear hS; intro w g_26 hg_27 hS
        replace hS : K.Sat w0 [g_11, g_26, g_5, g_2, g1, g2, g3, fr] w := hS
        refine K.RW.l rfl (K.OW.gst 0 [.int .i64 0, .int .u32 0] [.int .i64 0, .int .u32 0] hS hg_12 ?_)
        clear hS; intro w g_28 hg_29 hS
        replace hS : K.Sat w0 [g_28, g_26, g_5, g_2, g1, g2, g3, fr] w := hS
        refine K.RW.nil ?_
        refine K.thn_normal ?_
        refine K.KW.ret ?_
        refine K.thn_ret ?_
        have hA : applyT ⟨qa, sa, ma⟩ kind key val = (⟨qa, sa, ma⟩, 0, 0) := apN (by omega)
        rw [hA]
        refine ⟨.inr rfl, rfl, (.tuple #[.agg #[.slice q qa.length cq, .slice s sa.length cs, .slice m ma.length cm], .agg #[.int .i64 0, .int .u32 0]]), K.resAt (rs := [.cell 4 42, .cell 5 52]) [.agg #[.slice q qa.length cq, .slice s sa.length cs, .slice m ma.length cm], .agg #[.int .i64 0, .int .u32 0]] rfl ⟨⟨_, rfl, K.lvN [.slice q qa.length cq, .slice s sa.length cs, .slice m ma.length cm] (by kernel_rfl) (by kernel_rfl) (K.cells (K.cl ((hS.blk 1 rfl hg_27).cell rfl) (K.cl ((hS.blk 1 rfl hg_27).cell rfl) (K.cl ((hS.blk 1 rfl hg_27).cell rfl) K.cl0))))⟩, ⟨_, rfl, K.lvN [.int .i64 0, .int .u32 0] (by kernel_rfl) (by kernel_rfl) (K.cells (K.cl ((hS.blk 0 rfl hg_29).cell rfl) (K.cl ((hS.blk 0 rfl hg_29).cell rfl) K.cl0)))⟩, trivial⟩, [g1, g2, g3], ?_, hS.pick [4, 5, 6, 7]⟩
        exact ⟨q, cq, s, cs, m, cm, g1, g2, g3, rfl, rfl, x1, x2, x3, hc⟩
      ·  -- no
        refine K.RW.q rfl rfl (K.QR.nice (v := .bool (decide ((kind : Int) < (3 : Int)))) (by kernel_rfl) (congrArg Value.bool (decide_eq_false h_25))) ?_
        refine K.RW.qs [.bool false, .pointer (some ⟨r_4, 0, none⟩)] (by kernel_rfl) ?_
        refine K.RW.q rfl (by kernel_rfl) (K.QR.ld1 (v := .int .i64 kind) rfl rfl (by kernel_rfl) ((hS.blk 2 rfl hg_6).cell rfl)) ?_
        by_cases h_30 : (kind : Int) > (8 : Int)
        ·  -- yes
          refine K.RW.q rfl (by kernel_rfl) (K.QR.nice (v := .bool (decide ((kind : Int) > (8 : Int)))) (by kernel_rfl) (congrArg Value.bool (decide_eq_true h_30))) ?_
          refine K.RW.qs [.bool true] (by kernel_rfl) ?_
          refine K.RW.nil ?_
          refine K.thn_normal ?_
          refine K.KW.ifT rfl ?_
          refine K.KW.seq ?_
          -- 29 :90
          refine K.KW.region ?_
          refine K.RW.q rfl rfl (K.QR.ldN [.slice q qa.length cq, .slice s sa.length cs, .slice m ma.length cm] rfl rfl (by kernel_rfl) (by kernel_rfl) (K.cells (K.cl ((hS.blk 3 rfl hg_3).cell rfl) (K.cl ((hS.blk 3 rfl hg_3).cell rfl) (K.cl ((hS.blk 3 rfl hg_3).cell rfl) K.cl0))))) ?_
          refine K.RW.q rfl rfl (K.QR.bd [] [.int .i64 0, .int .u32 0] rfl rfl (by kernel_rfl)) ?_
          refine K.RW.l rfl (K.OW.gst 1 [.slice q qa.length cq, .slice s sa.length cs, .slice m ma.length cm] [.slice q qa.length cq, .slice s sa.length cs, .slice m ma.length cm] hS hg_9 ?_)
          clear hS; intro w g_31 hg_32 hS
          replace hS : K.Sat w0 [g_11, g_31, g_5, g_2, g1, g2, g3, fr] w := hS
          refine K.RW.l rfl (K.OW.gst 0 [.int .i64 0, .int .u32 0] [.int .i64 0, .int .u32 0] hS hg_12 ?_)
          clear hS; intro w g_33 hg_34 hS
          replace hS : K.Sat w0 [g_33, g_31, g_5, g_2, g1, g2, g3, fr] w := hS
          refine K.RW.nil ?_
          refine K.thn_normal ?_
          refine K.KW.ret ?_
          refine K.thn_ret ?_
          have hA : applyT ⟨qa, sa, ma⟩ kind key val = (⟨qa, sa, ma⟩, 0, 0) := apN (by omega)
          rw [hA]
          refine ⟨.inr rfl, rfl, (.tuple #[.agg #[.slice q qa.length cq, .slice s sa.length cs, .slice m ma.length cm], .agg #[.int .i64 0, .int .u32 0]]), K.resAt (rs := [.cell 4 42, .cell 5 52]) [.agg #[.slice q qa.length cq, .slice s sa.length cs, .slice m ma.length cm], .agg #[.int .i64 0, .int .u32 0]] rfl ⟨⟨_, rfl, K.lvN [.slice q qa.length cq, .slice s sa.length cs, .slice m ma.length cm] (by kernel_rfl) (by kernel_rfl) (K.cells (K.cl ((hS.blk 1 rfl hg_32).cell rfl) (K.cl ((hS.blk 1 rfl hg_32).cell rfl) (K.cl ((hS.blk 1 rfl hg_32).cell rfl) K.cl0))))⟩, ⟨_, rfl, K.lvN [.int .i64 0, .int .u32 0] (by kernel_rfl) (by kernel_rfl) (K.cells (K.cl ((hS.blk 0 rfl hg_34).cell rfl) (K.cl ((hS.blk 0 rfl hg_34).cell rfl) K.cl0)))⟩, trivial⟩, [g1, g2, g3], ?_, hS.pick [4, 5, 6, 7]⟩
          exact ⟨q, cq, s, cs, m, cm, g1, g2, g3, rfl, rfl, x1, x2, x3, hc⟩
        ·  -- no
          refine K.RW.q rfl (by kernel_rfl) (K.QR.nice (v := .bool (decide ((kind : Int) > (8 : Int)))) (by kernel_rfl) (congrArg Value.bool (decide_eq_false h_30))) ?_
          refine K.RW.qs [.bool false] (by kernel_rfl) ?_
          refine K.RW.nil ?_
          refine K.thn_normal ?_
          refine K.KW.ifF rfl ?_
          refine K.KW.skip ?_
          refine K.thn_normal ?_
          refine K.KW.seq ?_
          refine K.KW.seq ?_
          -- 30 :92
          exfalso
          omega
  ·  -- no
    refine K.RW.q rfl rfl (K.QR.nice (v := .bool (decide ((kind : Int) ≥ (3 : Int)))) (by kernel_rfl) (congrArg Value.bool (decide_eq_false h_13))) ?_
    refine K.RW.qs [.bool false] (by kernel_rfl) ?_
    refine K.RW.skip rfl (by kernel_rfl) ?_
    refine K.RW.skip rfl (by kernel_rfl) ?_
    refine K.RW.skip rfl (by kernel_rfl) ?_
    refine K.RW.qs [.bool false, .bool false] (by kernel_rfl) ?_
    refine K.RW.skip rfl (by kernel_rfl) ?_
    refine K.RW.skip rfl (by kernel_rfl) ?_
    refine K.RW.skip rfl (by kernel_rfl) ?_
    refine K.RW.skip rfl (by kernel_rfl) ?_
    refine K.RW.skip rfl (by kernel_rfl) ?_
    refine K.RW.qs [.bool false] (by kernel_rfl) ?_
    refine K.RW.nil ?_
    refine K.thn_normal ?_
    refine K.KW.ifF rfl ?_
    refine K.KW.exit ?_
    refine K.thn_exit ?_
    refine K.thn_exit ?_
    refine K.blk_hit ?_
    refine K.thn_normal ?_
    refine K.KW.seq ?_
    -- 21 :82
    refine K.KW.region ?_
    refine K.RW.qs [.int .u32 0] (by kernel_rfl) ?_
    refine K.RW.nil ?_
    refine K.thn_normal ?_
    refine K.KW.seq ?_
    refine K.KW.seq ?_
    -- 22 :83
    refine K.KW.region ?_
    refine K.RW.qs [.int .i64 0] (by kernel_rfl) ?_
    refine K.RW.nil ?_
    refine K.thn_normal ?_
    refine K.KW.block ?_
    refine K.KW.unr 0 ?_
    refine K.Unr.zero ?_
    refine K.KW.seq ?_
    refine K.KW.seq ?_
    -- 23 :83
    refine K.KW.region ?_
    refine K.RW.qs [.pointer (some ⟨r_4, 0, none⟩)] (by kernel_rfl) ?_
    refine K.RW.q rfl rfl (K.QR.ld1 (v := .int .i64 kind) rfl rfl (by kernel_rfl) ((hS.blk 2 rfl hg_6).cell rfl)) ?_
    by_cases h_35 : (kind : Int) ≥ (6 : Int)
    ·  -- yes
      refine K.RW.q rfl rfl (K.QR.nice (v := .bool (decide ((kind : Int) ≥ (6 : Int)))) (by kernel_rfl) (congrArg Value.bool (decide_eq_true h_35))) ?_
      refine K.RW.qs [.bool true, .pointer (some ⟨r_4, 0, none⟩)] (by kernel_rfl) ?_
      refine K.RW.q rfl (by kernel_rfl) (K.QR.ld1 (v := .int .i64 kind) rfl rfl (by kernel_rfl) ((hS.blk 2 rfl hg_6).cell rfl)) ?_
      refine K.RW.q rfl (by kernel_rfl) (K.QR.nice (v := .bool (decide ((kind : Int) ≤ (8 : Int)))) (by kernel_rfl) (congrArg Value.bool (decide_eq_false (by omega)))) ?_
      refine K.RW.qs [.bool false, .bool false] (by kernel_rfl) ?_
      refine K.RW.skip rfl (by kernel_rfl) ?_
      refine K.RW.skip rfl (by kernel_rfl) ?_
      refine K.RW.skip rfl (by kernel_rfl) ?_
      refine K.RW.skip rfl (by kernel_rfl) ?_
      refine K.RW.skip rfl (by kernel_rfl) ?_
      refine K.RW.qs [.bool false] (by kernel_rfl) ?_
      refine K.RW.nil ?_
      refine K.thn_normal ?_
      refine K.KW.ifF rfl ?_
      refine K.KW.exit ?_
      refine K.thn_exit ?_
      refine K.thn_exit ?_
      refine K.blk_hit ?_
      refine K.thn_normal ?_
      refine K.KW.seq ?_
      refine K.KW.seq ?_
      -- 28 :89
      refine K.KW.region ?_
      refine K.RW.qs [.pointer (some ⟨r_4, 0, none⟩)] (by kernel_rfl) ?_
      refine K.RW.q rfl rfl (K.QR.ld1 (v := .int .i64 kind) rfl rfl (by kernel_rfl) ((hS.blk 2 rfl hg_6).cell rfl)) ?_
      by_cases h_36 : (kind : Int) < (3 : Int)
      ·  -- yes
        refine K.RW.q rfl rfl (K.QR.nice (v := .bool (decide ((kind : Int) < (3 : Int)))) (by kernel_rfl) (congrArg Value.bool (decide_eq_true h_36))) ?_
        refine K.RW.qs [.bool true] (by kernel_rfl) ?_
        refine K.RW.skip rfl (by kernel_rfl) ?_
        refine K.RW.skip rfl (by kernel_rfl) ?_
        refine K.RW.skip rfl (by kernel_rfl) ?_
        refine K.RW.qs [.bool true] (by kernel_rfl) ?_
        refine K.RW.nil ?_
        refine K.thn_normal ?_
        refine K.KW.ifT rfl ?_
        refine K.KW.seq ?_
        -- 29 :90
        refine K.KW.region ?_
        refine K.RW.q rfl rfl (K.QR.ldN [.slice q qa.length cq, .slice s sa.length cs, .slice m ma.length cm] rfl rfl (by kernel_rfl) (by kernel_rfl) (K.cells (K.cl ((hS.blk 3 rfl hg_3).cell rfl) (K.cl ((hS.blk 3 rfl hg_3).cell rfl) (K.cl ((hS.blk 3 rfl hg_3).cell rfl) K.cl0))))) ?_
        refine K.RW.q rfl rfl (K.QR.bd [] [.int .i64 0, .int .u32 0] rfl rfl (by kernel_rfl)) ?_
        refine K.RW.l rfl (K.OW.gst 1 [.slice q qa.length cq, .slice s sa.length cs, .slice m ma.length cm] [.slice q qa.length cq, .slice s sa.length cs, .slice m ma.length cm] hS hg_9 ?_)
        clear hS; intro w g_37 hg_38 hS
        replace hS : K.Sat w0 [g_11, g_37, g_5, g_2, g1, g2, g3, fr] w := hS
        refine K.RW.l rfl (K.OW.gst 0 [.int .i64 0, .int .u32 0] [.int .i64 0, .int .u32 0] hS hg_12 ?_)
        clear hS; intro w g_39 hg_40 hS
        replace hS : K.Sat w0 [g_39, g_37, g_5, g_2, g1, g2, g3, fr] w := hS
        refine K.RW.nil ?_
        refine K.thn_normal ?_
        refine K.KW.ret ?_
        refine K.thn_ret ?_
        have hA : applyT ⟨qa, sa, ma⟩ kind key val = (⟨qa, sa, ma⟩, 0, 0) := apN (by omega)
        rw [hA]
        refine ⟨.inr rfl, rfl, (.tuple #[.agg #[.slice q qa.length cq, .slice s sa.length cs, .slice m ma.length cm], .agg #[.int .i64 0, .int .u32 0]]), K.resAt (rs := [.cell 4 42, .cell 5 52]) [.agg #[.slice q qa.length cq, .slice s sa.length cs, .slice m ma.length cm], .agg #[.int .i64 0, .int .u32 0]] rfl ⟨⟨_, rfl, K.lvN [.slice q qa.length cq, .slice s sa.length cs, .slice m ma.length cm] (by kernel_rfl) (by kernel_rfl) (K.cells (K.cl ((hS.blk 1 rfl hg_38).cell rfl) (K.cl ((hS.blk 1 rfl hg_38).cell rfl) (K.cl ((hS.blk 1 rfl hg_38).cell rfl) K.cl0))))⟩, ⟨_, rfl, K.lvN [.int .i64 0, .int .u32 0] (by kernel_rfl) (by kernel_rfl) (K.cells (K.cl ((hS.blk 0 rfl hg_40).cell rfl) (K.cl ((hS.blk 0 rfl hg_40).cell rfl) K.cl0)))⟩, trivial⟩, [g1, g2, g3], ?_, hS.pick [4, 5, 6, 7]⟩
        exact ⟨q, cq, s, cs, m, cm, g1, g2, g3, rfl, rfl, x1, x2, x3, hc⟩
      ·  -- no
        refine K.RW.q rfl rfl (K.QR.nice (v := .bool (decide ((kind : Int) < (3 : Int)))) (by kernel_rfl) (congrArg Value.bool (decide_eq_false h_36))) ?_
        refine K.RW.qs [.bool false, .pointer (some ⟨r_4, 0, none⟩)] (by kernel_rfl) ?_
        refine K.RW.q rfl (by kernel_rfl) (K.QR.ld1 (v := .int .i64 kind) rfl rfl (by kernel_rfl) ((hS.blk 2 rfl hg_6).cell rfl)) ?_
        by_cases h_41 : (kind : Int) > (8 : Int)
        ·  -- yes
          refine K.RW.q rfl (by kernel_rfl) (K.QR.nice (v := .bool (decide ((kind : Int) > (8 : Int)))) (by kernel_rfl) (congrArg Value.bool (decide_eq_true h_41))) ?_
          refine K.RW.qs [.bool true] (by kernel_rfl) ?_
          refine K.RW.nil ?_
          refine K.thn_normal ?_
          refine K.KW.ifT rfl ?_
          refine K.KW.seq ?_
          -- 29 :90
          refine K.KW.region ?_
          refine K.RW.q rfl rfl (K.QR.ldN [.slice q qa.length cq, .slice s sa.length cs, .slice m ma.length cm] rfl rfl (by kernel_rfl) (by kernel_rfl) (K.cells (K.cl ((hS.blk 3 rfl hg_3).cell rfl) (K.cl ((hS.blk 3 rfl hg_3).cell rfl) (K.cl ((hS.blk 3 rfl hg_3).cell rfl) K.cl0))))) ?_
          refine K.RW.q rfl rfl (K.QR.bd [] [.int .i64 0, .int .u32 0] rfl rfl (by kernel_rfl)) ?_
          refine K.RW.l rfl (K.OW.gst 1 [.slice q qa.length cq, .slice s sa.length cs, .slice m ma.length cm] [.slice q qa.length cq, .slice s sa.length cs, .slice m ma.length cm] hS hg_9 ?_)
          clear hS; intro w g_42 hg_43 hS
          replace hS : K.Sat w0 [g_11, g_42, g_5, g_2, g1, g2, g3, fr] w := hS
          refine K.RW.l rfl (K.OW.gst 0 [.int .i64 0, .int .u32 0] [.int .i64 0, .int .u32 0] hS hg_12 ?_)
          clear hS; intro w g_44 hg_45 hS
          replace hS : K.Sat w0 [g_44, g_42, g_5, g_2, g1, g2, g3, fr] w := hS
          refine K.RW.nil ?_
          refine K.thn_normal ?_
          refine K.KW.ret ?_
          refine K.thn_ret ?_
          have hA : applyT ⟨qa, sa, ma⟩ kind key val = (⟨qa, sa, ma⟩, 0, 0) := apN (by omega)
          rw [hA]
          refine ⟨.inr rfl, rfl, (.tuple #[.agg #[.slice q qa.length cq, .slice s sa.length cs, .slice m ma.length cm], .agg #[.int .i64 0, .int .u32 0]]), K.resAt (rs := [.cell 4 42, .cell 5 52]) [.agg #[.slice q qa.length cq, .slice s sa.length cs, .slice m ma.length cm], .agg #[.int .i64 0, .int .u32 0]] rfl ⟨⟨_, rfl, K.lvN [.slice q qa.length cq, .slice s sa.length cs, .slice m ma.length cm] (by kernel_rfl) (by kernel_rfl) (K.cells (K.cl ((hS.blk 1 rfl hg_43).cell rfl) (K.cl ((hS.blk 1 rfl hg_43).cell rfl) (K.cl ((hS.blk 1 rfl hg_43).cell rfl) K.cl0))))⟩, ⟨_, rfl, K.lvN [.int .i64 0, .int .u32 0] (by kernel_rfl) (by kernel_rfl) (K.cells (K.cl ((hS.blk 0 rfl hg_45).cell rfl) (K.cl ((hS.blk 0 rfl hg_45).cell rfl) K.cl0)))⟩, trivial⟩, [g1, g2, g3], ?_, hS.pick [4, 5, 6, 7]⟩
          exact ⟨q, cq, s, cs, m, cm, g1, g2, g3, rfl, rfl, x1, x2, x3, hc⟩
        ·  -- no
          refine K.RW.q rfl (by kernel_rfl) (K.QR.nice (v := .bool (decide ((kind : Int) > (8 : Int)))) (by kernel_rfl) (congrArg Value.bool (decide_eq_false h_41))) ?_
          refine K.RW.qs [.bool false] (by kernel_rfl) ?_
          refine K.RW.nil ?_
          refine K.thn_normal ?_
          refine K.KW.ifF rfl ?_
          refine K.KW.skip ?_
          refine K.thn_normal ?_
          refine K.KW.seq ?_
          refine K.KW.seq ?_
          -- 30 :92
          exfalso
          omega
    ·  -- no
      refine K.RW.q rfl rfl (K.QR.nice (v := .bool (decide ((kind : Int) ≥ (6 : Int)))) (by kernel_rfl) (congrArg Value.bool (decide_eq_false h_35))) ?_
      refine K.RW.qs [.bool false] (by kernel_rfl) ?_
      refine K.RW.skip rfl (by kernel_rfl) ?_
      refine K.RW.skip rfl (by kernel_rfl) ?_
      refine K.RW.skip rfl (by kernel_rfl) ?_
      refine K.RW.qs [.bool false, .bool false] (by kernel_rfl) ?_
      refine K.RW.skip rfl (by kernel_rfl) ?_
      refine K.RW.skip rfl (by kernel_rfl) ?_
      refine K.RW.skip rfl (by kernel_rfl) ?_
      refine K.RW.skip rfl (by kernel_rfl) ?_
      refine K.RW.skip rfl (by kernel_rfl) ?_
      refine K.RW.qs [.bool false] (by kernel_rfl) ?_
      refine K.RW.nil ?_
      refine K.thn_normal ?_
      refine K.KW.ifF rfl ?_
      refine K.KW.exit ?_
      refine K.thn_exit ?_
      refine K.thn_exit ?_
      refine K.blk_hit ?_
      refine K.thn_normal ?_
      refine K.KW.seq ?_
      refine K.KW.seq ?_
      -- 28 :89
      refine K.KW.region ?_
      refine K.RW.qs [.pointer (some ⟨r_4, 0, none⟩)] (by kernel_rfl) ?_
      refine K.RW.q rfl rfl (K.QR.ld1 (v := .int .i64 kind) rfl rfl (by kernel_rfl) ((hS.blk 2 rfl hg_6).cell rfl)) ?_
      by_cases h_46 : (kind : Int) < (3 : Int)
      ·  -- yes
        refine K.RW.q rfl rfl (K.QR.nice (v := .bool (decide ((kind : Int) < (3 : Int)))) (by kernel_rfl) (congrArg Value.bool (decide_eq_true h_46))) ?_
        refine K.RW.qs [.bool true] (by kernel_rfl) ?_
        refine K.RW.skip rfl (by kernel_rfl) ?_
        refine K.RW.skip rfl (by kernel_rfl) ?_
        refine K.RW.skip rfl (by kernel_rfl) ?_
        refine K.RW.qs [.bool true] (by kernel_rfl) ?_
        refine K.RW.nil ?_
        refine K.thn_normal ?_
        refine K.KW.ifT rfl ?_
        refine K.KW.seq ?_
        -- 29 :90
        refine K.KW.region ?_
        refine K.RW.q rfl rfl (K.QR.ldN [.slice q qa.length cq, .slice s sa.length cs, .slice m ma.length cm] rfl rfl (by kernel_rfl) (by kernel_rfl) (K.cells (K.cl ((hS.blk 3 rfl hg_3).cell rfl) (K.cl ((hS.blk 3 rfl hg_3).cell rfl) (K.cl ((hS.blk 3 rfl hg_3).cell rfl) K.cl0))))) ?_
        refine K.RW.q rfl rfl (K.QR.bd [] [.int .i64 0, .int .u32 0] rfl rfl (by kernel_rfl)) ?_
        refine K.RW.l rfl (K.OW.gst 1 [.slice q qa.length cq, .slice s sa.length cs, .slice m ma.length cm] [.slice q qa.length cq, .slice s sa.length cs, .slice m ma.length cm] hS hg_9 ?_)
        clear hS; intro w g_47 hg_48 hS
        replace hS : K.Sat w0 [g_11, g_47, g_5, g_2, g1, g2, g3, fr] w := hS
        refine K.RW.l rfl (K.OW.gst 0 [.int .i64 0, .int .u32 0] [.int .i64 0, .int .u32 0] hS hg_12 ?_)
        clear hS; intro w g_49 hg_50 hS
        replace hS : K.Sat w0 [g_49, g_47, g_5, g_2, g1, g2, g3, fr] w := hS
        refine K.RW.nil ?_
        refine K.thn_normal ?_
        refine K.KW.ret ?_
        refine K.thn_ret ?_
        have hA : applyT ⟨qa, sa, ma⟩ kind key val = (⟨qa, sa, ma⟩, 0, 0) := apN (by omega)
        rw [hA]
        refine ⟨.inr rfl, rfl, (.tuple #[.agg #[.slice q qa.length cq, .slice s sa.length cs, .slice m ma.length cm], .agg #[.int .i64 0, .int .u32 0]]), K.resAt (rs := [.cell 4 42, .cell 5 52]) [.agg #[.slice q qa.length cq, .slice s sa.length cs, .slice m ma.length cm], .agg #[.int .i64 0, .int .u32 0]] rfl ⟨⟨_, rfl, K.lvN [.slice q qa.length cq, .slice s sa.length cs, .slice m ma.length cm] (by kernel_rfl) (by kernel_rfl) (K.cells (K.cl ((hS.blk 1 rfl hg_48).cell rfl) (K.cl ((hS.blk 1 rfl hg_48).cell rfl) (K.cl ((hS.blk 1 rfl hg_48).cell rfl) K.cl0))))⟩, ⟨_, rfl, K.lvN [.int .i64 0, .int .u32 0] (by kernel_rfl) (by kernel_rfl) (K.cells (K.cl ((hS.blk 0 rfl hg_50).cell rfl) (K.cl ((hS.blk 0 rfl hg_50).cell rfl) K.cl0)))⟩, trivial⟩, [g1, g2, g3], ?_, hS.pick [4, 5, 6, 7]⟩
        exact ⟨q, cq, s, cs, m, cm, g1, g2, g3, rfl, rfl, x1, x2, x3, hc⟩
      ·  -- no
        refine K.RW.q rfl rfl (K.QR.nice (v := .bool (decide ((kind : Int) < (3 : Int)))) (by kernel_rfl) (congrArg Value.bool (decide_eq_false h_46))) ?_
        refine K.RW.qs [.bool false, .pointer (some ⟨r_4, 0, none⟩)] (by kernel_rfl) ?_
        refine K.RW.q rfl (by kernel_rfl) (K.QR.ld1 (v := .int .i64 kind) rfl rfl (by kernel_rfl) ((hS.blk 2 rfl hg_6).cell rfl)) ?_
        by_cases h_51 : (kind : Int) > (8 : Int)
        ·  -- yes
          refine K.RW.q rfl (by kernel_rfl) (K.QR.nice (v := .bool (decide ((kind : Int) > (8 : Int)))) (by kernel_rfl) (congrArg Value.bool (decide_eq_true h_51))) ?_
          refine K.RW.qs [.bool true] (by kernel_rfl) ?_
          refine K.RW.nil ?_
          refine K.thn_normal ?_
          refine K.KW.ifT rfl ?_
          refine K.KW.seq ?_
          -- 29 :90
          refine K.KW.region ?_
          refine K.RW.q rfl rfl (K.QR.ldN [.slice q qa.length cq, .slice s sa.length cs, .slice m ma.length cm] rfl rfl (by kernel_rfl) (by kernel_rfl) (K.cells (K.cl ((hS.blk 3 rfl hg_3).cell rfl) (K.cl ((hS.blk 3 rfl hg_3).cell rfl) (K.cl ((hS.blk 3 rfl hg_3).cell rfl) K.cl0))))) ?_
          refine K.RW.q rfl rfl (K.QR.bd [] [.int .i64 0, .int .u32 0] rfl rfl (by kernel_rfl)) ?_
          refine K.RW.l rfl (K.OW.gst 1 [.slice q qa.length cq, .slice s sa.length cs, .slice m ma.length cm] [.slice q qa.length cq, .slice s sa.length cs, .slice m ma.length cm] hS hg_9 ?_)
          clear hS; intro w g_52 hg_53 hS
          replace hS : K.Sat w0 [g_11, g_52, g_5, g_2, g1, g2, g3, fr] w := hS
          refine K.RW.l rfl (K.OW.gst 0 [.int .i64 0, .int .u32 0] [.int .i64 0, .int .u32 0] hS hg_12 ?_)
          clear hS; intro w g_54 hg_55 hS
          replace hS : K.Sat w0 [g_54, g_52, g_5, g_2, g1, g2, g3, fr] w := hS
          refine K.RW.nil ?_
          refine K.thn_normal ?_
          refine K.KW.ret ?_
          refine K.thn_ret ?_
          have hA : applyT ⟨qa, sa, ma⟩ kind key val = (⟨qa, sa, ma⟩, 0, 0) := apN (by omega)
          rw [hA]
          refine ⟨.inr rfl, rfl, (.tuple #[.agg #[.slice q qa.length cq, .slice s sa.length cs, .slice m ma.length cm], .agg #[.int .i64 0, .int .u32 0]]), K.resAt (rs := [.cell 4 42, .cell 5 52]) [.agg #[.slice q qa.length cq, .slice s sa.length cs, .slice m ma.length cm], .agg #[.int .i64 0, .int .u32 0]] rfl ⟨⟨_, rfl, K.lvN [.slice q qa.length cq, .slice s sa.length cs, .slice m ma.length cm] (by kernel_rfl) (by kernel_rfl) (K.cells (K.cl ((hS.blk 1 rfl hg_53).cell rfl) (K.cl ((hS.blk 1 rfl hg_53).cell rfl) (K.cl ((hS.blk 1 rfl hg_53).cell rfl) K.cl0))))⟩, ⟨_, rfl, K.lvN [.int .i64 0, .int .u32 0] (by kernel_rfl) (by kernel_rfl) (K.cells (K.cl ((hS.blk 0 rfl hg_55).cell rfl) (K.cl ((hS.blk 0 rfl hg_55).cell rfl) K.cl0)))⟩, trivial⟩, [g1, g2, g3], ?_, hS.pick [4, 5, 6, 7]⟩
          exact ⟨q, cq, s, cs, m, cm, g1, g2, g3, rfl, rfl, x1, x2, x3, hc⟩
        ·  -- no
          refine K.RW.q rfl (by kernel_rfl) (K.QR.nice (v := .bool (decide ((kind : Int) > (8 : Int)))) (by kernel_rfl) (congrArg Value.bool (decide_eq_false h_51))) ?_
          refine K.RW.qs [.bool false] (by kernel_rfl) ?_
          refine K.RW.nil ?_
          refine K.thn_normal ?_
          refine K.KW.ifF rfl ?_
          refine K.KW.skip ?_
          refine K.thn_normal ?_
          refine K.KW.seq ?_
          refine K.KW.seq ?_
          -- 30 :92
          exfalso
          omega

theorem rapply_ok (w0 : World) (q s m : Option Addr) (cq cs cm : Nat) (qa sa : List Int) (ma : List PairM) (kind key val : Int) (h1 : qa.length ≤ 1000000) (h2 : sa.length ≤ 1000000) (h3 : ma.length ≤ 1000000) (hr1 : rising sa) (hr2 : rising (keysP ma)) (hc : qa.length ≤ cq) (g1 : K.Cs) (x1 : ∀ w, K.Sat w0 [g1] w → K.RowE w q qa.length 1 (fun i => cU32 (qa.getD i 0))) (g2 : K.Cs) (x2 : ∀ w, K.Sat w0 [g2] w → K.RowE w s sa.length 1 (fun i => cU32 (sa.getD i 0))) (g3 : K.Cs) (x3 : ∀ w, K.Sat w0 [g3] w → K.RowE w m ma.length 2 (fun i => cPair (ma.getD i p0))) :
    K.GC Try.prog w0 33 #[.agg #[.slice q qa.length cq, .slice s sa.length cs, .slice m ma.length cm], .agg #[.int .i64 kind, .int .u32 key, .int .u32 val]] [g1, g2, g3] (ApR w0 (applyT ⟨qa, sa, ma⟩ kind key val)) := by
  by_cases e1 : kind = 1
  · subst e1; exact rapply1_ok w0 q s m cq cs cm qa sa ma key val h1 h2 h3 hr1 hr2 hc g1 x1 g2 x2 g3 x3
  by_cases e2 : kind = 2
  · subst e2; exact rapply2_ok w0 q s m cq cs cm qa sa ma key val h1 h2 h3 hr1 hr2 hc g1 x1 g2 x2 g3 x3
  by_cases e3 : kind = 3
  · subst e3; exact rapply3_ok w0 q s m cq cs cm qa sa ma key val h1 h2 h3 hr1 hr2 hc g1 x1 g2 x2 g3 x3
  by_cases e4 : kind = 4
  · subst e4; exact rapply4_ok w0 q s m cq cs cm qa sa ma key val h1 h2 h3 hr1 hr2 hc g1 x1 g2 x2 g3 x3
  by_cases e5 : kind = 5
  · subst e5; exact rapply5_ok w0 q s m cq cs cm qa sa ma key val h1 h2 h3 hr1 hr2 hc g1 x1 g2 x2 g3 x3
  by_cases e6 : kind = 6
  · subst e6; exact rapply6_ok w0 q s m cq cs cm qa sa ma key val h1 h2 h3 hr1 hr2 hc g1 x1 g2 x2 g3 x3
  by_cases e7 : kind = 7
  · subst e7; exact rapply7_ok w0 q s m cq cs cm qa sa ma key val h1 h2 h3 hr1 hr2 hc g1 x1 g2 x2 g3 x3
  by_cases e8 : kind = 8
  · subst e8; exact rapply8_ok w0 q s m cq cs cm qa sa ma key val h1 h2 h3 hr1 hr2 hc g1 x1 g2 x2 g3 x3
  exact rapplyN_ok w0 q s m cq cs cm qa sa ma kind key val (by omega) h1 h2 h3 hr1 hr2 hc g1 x1 g2 x2 g3 x3

end Go.Proofs.Ytgeihjiichdpbaa
