import Derived.Test.YtnehocjmgnhhhaaDoorFrp3
import Derived.Test.YtnehocjmgnhhhaaDoorFms
/- Reports: the text of a state. -/
namespace Go.Proofs.YtnehocjmgnhhhaaDoor
open Go.RowKit
set_option linter.unusedVariables false
attribute [local irreducible] K.KW K.RW K.DW K.OW K.QR K.KC
/-- a value, and a pair, as they are written -/
def vR (x : Int) : List UInt8 := dg x.toNat
def pR (p : PairM) : List UInt8 := dg p.key.toNat ++ 61 :: dg p.val.toNat
def isP (p : PairM) : Prop := isU32 p.key ∧ isU32 p.val
def rowR {α : Type} (nm : List UInt8) (f : α → List UInt8) (L : List α) : List UInt8 := K.jn 32 (nm :: L.map f) ++ [10]
structure StM where
  q : List Int
  s : List Int
  m : List PairM
deriving DecidableEq
def stR (S : StM) : List UInt8 := rowR [113, 117, 101, 117, 101] vR S.q ++ rowR [115, 101, 116] vR S.s ++ rowR [109, 97, 112] pR S.m
def StM.fits (S : StM) : Prop := (∀ i, isU32 (S.q.getD i 0)) ∧ (∀ i, isU32 (S.s.getD i 0)) ∧ (∀ i, isP (S.m.getD i p0))
def StM.few (S : StM) : Prop := S.q.length ≤ 1000 ∧ S.s.length ≤ 1000 ∧ S.m.length ≤ 1000
theorem vR_len {x : Int} (h : isU32 x) : (vR x).length ≤ 20 := dg_len20 (by unfold isU32 at h; omega)
theorem pR_len {p : PairM} (h : isP p) : (pR p).length ≤ 41 := by
  have h1 := vR_len h.1; have h2 := vR_len h.2
  unfold vR at h1 h2; unfold pR
  rw [List.length_append, List.length_cons]; omega
theorem sum_le {α : Type} {f : α → List UInt8} {b : Nat} {d : α} : ∀ {L : List α}, (∀ i, (f (L.getD i d)).length ≤ b) → ((L.map f).map List.length).sum ≤ b * L.length
  | [], _ => by simp
  | a :: r, h => by
    have ih := sum_le (L := r) (f := f) (b := b) (d := d) fun i => by have := h (i + 1); simpa using this
    have h0 := h 0
    simp only [List.map_cons, List.sum_cons, List.length_cons, Nat.mul_succ]
    have h0 : (f a).length ≤ b := h0
    omega
theorem jnrow_len {α : Type} {f : α → List UInt8} {b : Nat} {d : α} {L : List α} {nm : List UInt8} (h : ∀ i, (f (L.getD i d)).length ≤ b) (hn : nm.length ≤ 100) : (K.jn 32 (nm :: L.map f)).length ≤ 101 + (b + 1) * L.length := by
  have h1 := K.jn_len 32 (nm :: L.map f)
  have h2 := sum_le h
  simp only [List.map_cons, List.sum_cons, List.length_cons, List.length_map] at h1 h2
  rw [Nat.add_mul, Nat.one_mul]
  omega
theorem rowR_len {α : Type} {f : α → List UInt8} {b : Nat} {d : α} {L : List α} {nm : List UInt8} (h : ∀ i, (f (L.getD i d)).length ≤ b) (hn : nm.length ≤ 100) : (rowR nm f L).length ≤ 102 + (b + 1) * L.length := by
  have := jnrow_len h hn
  unfold rowR; rw [List.length_append, List.length_singleton]; omega
theorem stR_len {S : StM} (hf : S.fits) (hw : S.few) : (stR S).length ≤ 200000 := by
  obtain ⟨h1, h2, h3⟩ := hf; obtain ⟨k1, k2, k3⟩ := hw
  have a1 := rowR_len (f := vR) (b := 20) (d := 0) (L := S.q) (nm := [113, 117, 101, 117, 101]) (fun i => vR_len (h1 i)) (by decide)
  have a2 := rowR_len (f := vR) (b := 20) (d := 0) (L := S.s) (nm := [115, 101, 116]) (fun i => vR_len (h2 i)) (by decide)
  have a3 := rowR_len (f := pR) (b := 41) (d := p0) (L := S.m) (nm := [109, 97, 112]) (fun i => pR_len (h3 i)) (by decide)
  unfold stR; rw [List.length_append, List.length_append]; omega
theorem map_take {α : Type} {f : α → List UInt8} {d : α} {L : List α} {j : Nat} (h : j < L.length) : (L.take (j + 1)).map f = (L.take j).map f ++ [f (L.getD j d)] := by
  rw [List.take_succ_eq_append_getElem h, List.map_append]; simp [h]
set_option maxHeartbeats 1000000 in
set_option maxRecDepth 100000 in
theorem value_ok (w0 : World) (x : Int) (h : isU32 x) :
    K.GC Tryd.prog w0 53 #[.int .u32 x] [] (fun v post => post = [] ∧ v = .string (K.sb (vR x))) := by
  have h9 := h
  unfold isU32 at h9
  refine K.GC.mk (n := 6) Tryd.func53 rfl rfl [.int .u32 x] rfl rfl ?_
  intro fr w hS
  replace hS : K.Sat w0 [fr] w := hS
  refine K.KW.seq ?_
  -- 0 :157
  refine K.KW.region ?_
  refine K.RW.qs [.string (K.sb [])] (by kernel_rfl) ?_
  refine K.RW.nil ?_
  refine K.thn_normal ?_
  refine K.KW.seq ?_
  -- 1 :157
  refine K.KW.region ?_
  refine K.RW.qs [.int .u32 x] (by kernel_rfl) ?_
  refine K.RW.q rfl rfl (K.QR.nice (v := .int .i64 (IntKind.i64.wrap x)) (by kernel_rfl) (congrArg (Value.int .i64) (IntWalk.i64_in _ (by omega)))) ?_
  refine K.RW.l rfl (K.OW.gcall hS [] [0] [.int .i64 x] (digits_ok _ x (by omega) (by omega)) ?_)
  clear hS; rintro _ _ w ⟨rfl, rfl⟩ hS
  replace hS : K.Sat w0 [fr] w := hS
  refine K.RW.qs [.string (K.sb (dgR x))] (by kernel_rfl) ?_
  refine K.RW.nil ?_
  refine K.thn_normal ?_
  refine K.KW.ret ?_
  refine ⟨.inr rfl, rfl, (.string (K.sb (dgR x))), K.res1 rfl rfl, [], ?_, hS.pick [0]⟩
  exact ⟨rfl, by unfold vR dgR; rw [if_neg (by omega)]⟩
set_option maxHeartbeats 1000000 in
set_option maxRecDepth 100000 in
theorem pair_ok (w0 : World) (p : PairM) (h : isP p) :
    K.GC Tryd.prog w0 55 #[.agg #[.int .u32 p.key, .int .u32 p.val]] [] (fun v post => post = [] ∧ v = .string (K.sb (pR p))) := by
  refine K.GC.mk (n := 11) Tryd.func55 rfl rfl [.agg #[.int .u32 p.key, .int .u32 p.val]] rfl rfl ?_
  intro fr w hS
  replace hS : K.Sat w0 [fr] w := hS
  refine K.KW.seq ?_
  -- 0 :158
  refine K.KW.region ?_
  refine K.RW.l rfl (K.OW.gnew 92 [.int .u32 p.key, .int .u32 p.val] hS ?_)
  clear hS; intro w r_1 g_2 hg_3 hS
  refine K.RW.qs [.string (K.sb [])] (by kernel_rfl) ?_
  refine K.RW.nil ?_
  refine K.thn_normal ?_
  refine K.KW.seq ?_
  -- 1 :158
  refine K.KW.gdrawn [0] hS (by kernel_rfl) ?_
  clear hS; intro w hS
  refine K.DW.q 0 (by kernel_rfl) rfl rfl (by kernel_rfl) rfl (fun w hS => K.QR.k (v := .pointer (some ⟨r_1, 0, none⟩)) (by kernel_rfl)) (hS.pick [0]) ?_
  refine K.DW.q 1 (by kernel_rfl) rfl rfl (by kernel_rfl) rfl (fun w hS => K.QR.ld1 (v := .int .u32 p.key) rfl rfl (by kernel_rfl) ((hS.blk 0 rfl hg_3).cell rfl)) (hS.pick [0]) ?_
  refine K.DW.q 4 (by kernel_rfl) rfl rfl (by kernel_rfl) rfl (fun w hS => K.QR.k (v := .pointer (some ⟨r_1, 1, none⟩)) (by kernel_rfl)) (hS.pick [0]) ?_
  refine K.DW.q 5 (by kernel_rfl) rfl rfl (by kernel_rfl) rfl (fun w hS => K.QR.ld1 (v := .int .u32 p.val) rfl rfl (by kernel_rfl) ((hS.blk 0 rfl hg_3).cell rfl)) (hS.pick [0]) ?_
  refine K.DW.l 2 rfl (by kernel_rfl) rfl (K.OW.gcall hS [] [0, 1] [.int .u32 p.key] (value_ok _ p.key h.1) ?_)
  clear hS; rintro _ _ w ⟨rfl, rfl⟩ hS
  replace hS : K.Sat w0 [g_2, fr] w := hS
  refine ⟨.inl (hS.pick [0]), ?_⟩
  refine K.DW.q 3 (by kernel_rfl) rfl rfl (by kernel_rfl) rfl (fun w hS => K.QR.sAdd (xs := (vR p.key)) (ys := [61]) rfl rfl rfl (by have q1 := vR_len h.1; have q2 := vR_len h.2; (try simp only [List.length_append, List.length_cons, List.length_nil] at *); omega)) (hS.pick [0]) ?_
  refine K.DW.l 6 rfl (by kernel_rfl) rfl (K.OW.gcall hS [] [0, 1] [.int .u32 p.val] (value_ok _ p.val h.2) ?_)
  clear hS; rintro _ _ w ⟨rfl, rfl⟩ hS
  replace hS : K.Sat w0 [g_2, fr] w := hS
  refine ⟨.inl (hS.pick [0]), ?_⟩
  refine K.DW.l 7 rfl (by kernel_rfl) rfl (K.OW.q rfl (K.QR.sAdd (xs := ((vR p.key) ++ ([61] : List UInt8))) (ys := (vR p.val)) rfl rfl rfl (by have q1 := vR_len h.1; have q2 := vR_len h.2; (try simp only [List.length_append, List.length_cons, List.length_nil] at *); omega)) ?_)
  refine ⟨.inl (hS.pick [0]), ?_⟩
  refine K.DW.l 8 rfl (by kernel_rfl) rfl (K.OW.q rfl (K.QR.k (v := .string (K.sb (((vR p.key) ++ ([61] : List UInt8)) ++ (vR p.val)))) (by kernel_rfl)) ?_)
  refine ⟨.inl (hS.pick [0]), ?_⟩
  refine K.DW.done (by kernel_rfl) ?_
  refine K.thn_normal ?_
  refine K.KW.ret ?_
  refine ⟨.inr rfl, rfl, (.string (K.sb (((vR p.key) ++ ([61] : List UInt8)) ++ (vR p.val)))), K.res1 rfl rfl, [], ?_, hS.pick [1]⟩
  exact ⟨rfl, by unfold pR; simp [vR]⟩
set_option maxHeartbeats 4000000 in
set_option maxRecDepth 100000 in
theorem rowU_ok (w0 : World) (a : Option Addr) (cap : Nat) (nm : List UInt8) (L : List Int) (hn : nm.length ≤ 100) (hm : L.length ≤ 1000000) (hf : ∀ i, isU32 (L.getD i 0)) (gx : K.Cs) (hx : ∀ w, K.Sat w0 [gx] w → K.RowE w a L.length 1 (fun i => cU32 (L.getD i 0))) :
    K.GC Tryd.prog w0 52 #[.string (K.sb nm), .slice a L.length cap, .func (.func 53) [].toArray [].toArray] [gx] (fun v post => post = [gx] ∧ v = .string (K.sb (rowR nm vR L))) := by
  refine K.GC.mk (n := 28) Tryd.func52 rfl rfl [.string (K.sb nm), .slice a L.length cap, .func (.func 53) [].toArray [].toArray] rfl rfl ?_
  intro fr w hS
  replace hS : K.Sat w0 [gx, fr] w := hS
  refine K.KW.seq ?_
  -- 0 :148
  refine K.KW.region ?_
  refine K.RW.qs [.string (K.sb [])] (by kernel_rfl) ?_
  refine K.RW.nil ?_
  refine K.thn_normal ?_
  refine K.KW.seq ?_
  -- 1 :149
  refine K.KW.region ?_
  refine K.RW.qs [.string (K.sb nm)] (by kernel_rfl) ?_
  refine K.RW.l rfl (K.OW.gbs [(0, .string (K.sb nm))] [.string (K.sb nm)] hS (fun w => K.bs_run (P := Tryd.prog) w 68 9 1 _ _ Tryd.underlying68 (by kernel_rfl)) ?_)
  clear hS; intro w r_1 g_2 hg_3 hS
  refine K.RW.qs [.slice (some ⟨r_1, 0, none⟩) 1 1] (by kernel_rfl) ?_
  refine K.RW.nil ?_
  refine K.thn_normal ?_
  refine K.KW.seq ?_
  refine K.KW.seq ?_
  -- 2 :150
  refine K.KW.region ?_
  refine K.RW.qs [.slice a L.length cap] (by kernel_rfl) ?_
  refine K.RW.q rfl rfl (K.QR.len (P := Tryd.prog) rfl rfl Tryd.underlying43) ?_
  refine K.RW.qs [.int .i64 0] (by kernel_rfl) ?_
  refine K.RW.nil ?_
  refine K.thn_normal ?_
  refine K.KW.block ?_
  have o_4 : K.OwnG g_2 9 1 (some ⟨r_1, 0, none⟩) 1 1 (([nm]).flatMap K.cStr) := K.OwnG.ofPt hg_3 1 (by unfold maxLen; omega) rfl
  refine K.KW.loop (fun m_ F_ w_ => ∃ (j : Nat) (o : List (List UInt8)) (q1 : Option Addr) (c1 : Nat) (o1 : K.Cs), m_ = L.length - j ∧ K.Sl F_ [(0, .string (K.sb nm)), (1, .slice a L.length cap), (2, .func (.func 53) [].toArray [].toArray), (6, .string (K.sb [])), (7, .slice q1 o.length c1), (12, .slice a L.length cap), (13, .int .i64 ((L.length : Nat) : Int)), (14, .int .i64 ((j : Nat) : Int)), (28, undef)] ∧ j ≤ L.length ∧ o = nm :: (L.take j).map vR ∧ K.OwnG o1 9 1 q1 o.length c1 ((o).flatMap K.cStr) ∧ K.Sat w0 [o1, gx, fr] w_) ((fun (j : Nat) (o : List (List UInt8)) (q1 : Option Addr) (c1 : Nat) => L.length - j) 0 [nm] (some ⟨r_1, 0, none⟩) 1) ?_ ?_
  · -- begins
    exact ⟨0, [nm], (some ⟨r_1, 0, none⟩), 1, g_2, rfl, ⟨by rfl, by rfl, by rfl, by rfl, by rfl, by rfl, by rfl, by rfl, by rfl, trivial⟩, (by omega), (by simp), o_4, hS.pick [0, 1, 2]⟩
  · -- a round
    clear hS
    intro m_5 F_6 w hI
    obtain ⟨j, o, q1, c1, o1, rfl, sl_7, p_8, ho, x_9, hS⟩ := hI
    rw [← K.Sl.puts sl_7]; clear sl_7
    have hol : o.length = j + 1 := by rw [ho, List.length_cons, List.length_map, List.length_take]; omega
    refine K.KW.seq ?_
    -- 3 :150
    refine K.KW.region ?_
    by_cases h_10 : (((j : Nat) : Int) : Int) < (((L.length : Nat) : Int) : Int)
    ·  -- yes
      refine K.RW.q rfl rfl (K.QR.nice (v := .bool (decide ((((j : Nat) : Int) : Int) < (((L.length : Nat) : Int) : Int)))) (by kernel_rfl) (congrArg Value.bool (decide_eq_true h_10))) ?_
      refine K.RW.nil ?_
      refine K.thn_normal ?_
      refine K.KW.seq ?_
      refine K.KW.ifT rfl ?_
      refine K.KW.skip ?_
      refine K.thn_normal ?_
      refine K.KW.seq ?_
      refine K.KW.block ?_
      refine K.KW.seq ?_
      -- 4 :150
      obtain ⟨b_11, of_12, rfl, _⟩ := (hx _ (hS.pick [1])).at_ (by omega)
      refine K.KW.region ?_
      refine K.RW.q rfl rfl (K.QR.ix (of_12 + j * 1) 1 rfl rfl rfl Tryd.underlying43 (by kernel_rfl) (by omega) (by first | (simp; done) | omega | (simp; omega))) ?_
      refine K.RW.q rfl rfl (K.QR.ld1 (v := .int .u32 (L.getD j 0)) rfl rfl (by kernel_rfl) ((hx _ (hS.pick [1])).ld j (by omega) 0 _ rfl)) ?_
      refine K.RW.qs [.int .u32 (L.getD j 0)] (by kernel_rfl) ?_
      refine K.RW.nil ?_
      refine K.thn_normal ?_
      -- 5 :151
      refine K.KW.region ?_
      refine K.RW.qs [.slice q1 o.length c1, .func (.func 53) [].toArray [].toArray, .int .u32 (L.getD j 0)] (by kernel_rfl) ?_
      refine K.RW.l rfl (K.OW.gcallw hS [] [0, 1, 2] [.int .u32 (L.getD j 0)] (value_ok _ (L.getD j 0) (hf j)) ?_)
      clear hS; rintro _ _ w ⟨rfl, rfl⟩ hS
      replace hS : K.Sat w0 [o1, gx, fr] w := hS
      refine K.RW.l rfl (K.OW.gbs [(0, .string (K.sb (vR (L.getD j 0))))] [.string (K.sb (vR (L.getD j 0)))] hS (fun w => K.bs_run (P := Tryd.prog) w 68 9 1 _ _ Tryd.underlying68 (by kernel_rfl)) ?_)
      clear hS; intro w r_13 g_14 hg_15 hS
      refine K.RW.l rfl (K.OW.gapp (P := Tryd.prog) (xs := (o).flatMap K.cStr) (z := .string (K.sb [])) (size := 1) (bytes := 16) 1 [.string (K.sb (vR (L.getD j 0)))] hS x_9 ?_ (fun j u hj => (by rw [Nat.zero_add]; exact (hS.blk 0 rfl hg_15).cell hj)) (K.one_cells (by rfl)) (by rfl) Tryd.underlying68 (by kernel_rfl) rfl (by decide) (by unfold maxLen; omega) (by omega))
      clear hS; intro a_16 cap_17 w l_18 o_19 hS
      have ln_20 : ((o ++ [((vR (L.getD j 0)) : List UInt8)])).length = o.length + 1 := by rw [List.length_append]; rfl
      have o_19c := K.OwnG.cast (xs' := ((o ++ [((vR (L.getD j 0)) : List UInt8)])).flatMap K.cStr) o_19 rfl (K.fl_snoc K.cStr o _ rfl)
      replace hS : K.Sat w0 [g_14, l_18, gx, fr] w := hS
      refine K.RW.qs [.slice a_16 (o.length + 1) cap_17] (by kernel_rfl) ?_
      refine K.RW.nil ?_
      refine K.blk_normal ?_
      refine K.thn_normal ?_
      -- 6 :150
      refine K.KW.region ?_
      refine K.RW.q rfl rfl (K.QR.n64 ((((j : Nat) : Int) : Int) + (1 : Int)) ((j + 1 : Nat) : Int) (by kernel_rfl) (by omega)) ?_
      refine K.RW.qs [.int .i64 ((j + 1 : Nat) : Int)] (by kernel_rfl) ?_
      refine K.RW.nil ?_
      refine K.thn_normal ?_
      refine ⟨_, ?_, j + 1, (o ++ [((vR (L.getD j 0)) : List UInt8)]), a_16, cap_17, l_18, rfl, ⟨by rfl, by rfl, by rfl, by rfl, congrArg (fun m_ => Value.slice a_16 m_ cap_17) (by first | rfl | (rw [List.length_append]; rfl) : o.length + 1 = ((o ++ [((vR (L.getD j 0)) : List UInt8)])).length), by rfl, by rfl, by rfl, by rfl, trivial⟩, (by omega), (by rw [ho, map_take (d := 0) (by omega)]; rfl), (K.OwnG.cast o_19c (by first | rfl | (rw [List.length_append]; rfl)) rfl), hS.pick [1, 2, 3]⟩
      omega
    ·  -- no
      refine K.RW.q rfl rfl (K.QR.nice (v := .bool (decide ((((j : Nat) : Int) : Int) < (((L.length : Nat) : Int) : Int)))) (by kernel_rfl) (congrArg Value.bool (decide_eq_false h_10))) ?_
      refine K.RW.nil ?_
      refine K.thn_normal ?_
      refine K.KW.seq ?_
      refine K.KW.ifF rfl ?_
      refine K.KW.exit ?_
      refine K.thn_exit ?_
      refine K.thn_exit ?_
      refine K.blk_hit ?_
      refine K.thn_normal ?_
      refine K.KW.seq ?_
      -- 7 :153
      have ho2 : o = nm :: L.map vR := by rw [ho, List.take_of_length_le (by omega)]
      have hjl0 := jnrow_len (f := vR) (b := 20) (d := 0) (L := L) (nm := nm) (fun i => vR_len (hf i)) hn
      have hjl : (K.jn 32 o).length ≤ 140737488355328 := by rw [ho2]; omega
      refine K.KW.region ?_
      refine K.RW.qs [.slice q1 o.length c1] (by kernel_rfl) ?_
      refine K.RW.l rfl (K.OW.gcall hS [0] [1, 2] [.slice q1 o.length c1, .string (K.sb [32])] (join_ok _ _ _ 32 o _ (fun w h => K.RowE.len (K.Own.rowE [] (h.ownr 0 rfl x_9) rfl (fun _ => rfl)) rfl) (by have := x_9.le; first | omega | (simp; done) | (simp; omega)) (by have := x_9.le; first | omega | (simp; done) | (simp; omega)) (by have := x_9.le; first | omega | (simp; done) | (simp; omega)) (by exact hjl)) ?_)
      clear hS; rintro _ _ w ⟨rfl, rfl⟩ hS
      replace hS : K.Sat w0 [o1, gx, fr] w := hS
      refine K.RW.q rfl rfl (K.QR.sAdd (xs := (K.jn 32 o)) (ys := [10]) rfl rfl rfl (by (try simp only [List.length_append, List.length_cons, List.length_nil] at *); omega)) ?_
      refine K.RW.qs [.string (K.sb ((K.jn 32 o) ++ ([10] : List UInt8)))] (by kernel_rfl) ?_
      refine K.RW.nil ?_
      refine K.thn_normal ?_
      refine K.KW.ret ?_
      refine ⟨.inr rfl, rfl, (.string (K.sb ((K.jn 32 o) ++ ([10] : List UInt8)))), K.res1 rfl rfl, [gx], ?_, hS.pick [1, 2]⟩
      exact ⟨rfl, by unfold rowR; rw [ho2]⟩
set_option maxHeartbeats 4000000 in
set_option maxRecDepth 100000 in
theorem rowP_ok (w0 : World) (a : Option Addr) (cap : Nat) (nm : List UInt8) (L : List PairM) (hn : nm.length ≤ 100) (hm : L.length ≤ 1000000) (hf : ∀ i, isP (L.getD i p0)) (gx : K.Cs) (hx : ∀ w, K.Sat w0 [gx] w → K.RowE w a L.length 2 (fun i => cPair (L.getD i p0))) :
    K.GC Tryd.prog w0 54 #[.string (K.sb nm), .slice a L.length cap, .func (.func 55) [].toArray [].toArray] [gx] (fun v post => post = [gx] ∧ v = .string (K.sb (rowR nm pR L))) := by
  refine K.GC.mk (n := 28) Tryd.func54 rfl rfl [.string (K.sb nm), .slice a L.length cap, .func (.func 55) [].toArray [].toArray] rfl rfl ?_
  intro fr w hS
  replace hS : K.Sat w0 [gx, fr] w := hS
  refine K.KW.seq ?_
  -- 0 :148
  refine K.KW.region ?_
  refine K.RW.qs [.string (K.sb [])] (by kernel_rfl) ?_
  refine K.RW.nil ?_
  refine K.thn_normal ?_
  refine K.KW.seq ?_
  -- 1 :149
  refine K.KW.region ?_
  refine K.RW.qs [.string (K.sb nm)] (by kernel_rfl) ?_
  refine K.RW.l rfl (K.OW.gbs [(0, .string (K.sb nm))] [.string (K.sb nm)] hS (fun w => K.bs_run (P := Tryd.prog) w 68 9 1 _ _ Tryd.underlying68 (by kernel_rfl)) ?_)
  clear hS; intro w r_1 g_2 hg_3 hS
  refine K.RW.qs [.slice (some ⟨r_1, 0, none⟩) 1 1] (by kernel_rfl) ?_
  refine K.RW.nil ?_
  refine K.thn_normal ?_
  refine K.KW.seq ?_
  refine K.KW.seq ?_
  -- 2 :150
  refine K.KW.region ?_
  refine K.RW.qs [.slice a L.length cap] (by kernel_rfl) ?_
  refine K.RW.q rfl rfl (K.QR.len (P := Tryd.prog) rfl rfl Tryd.underlying44) ?_
  refine K.RW.qs [.int .i64 0] (by kernel_rfl) ?_
  refine K.RW.nil ?_
  refine K.thn_normal ?_
  refine K.KW.block ?_
  have o_4 : K.OwnG g_2 9 1 (some ⟨r_1, 0, none⟩) 1 1 (([nm]).flatMap K.cStr) := K.OwnG.ofPt hg_3 1 (by unfold maxLen; omega) rfl
  refine K.KW.loop (fun m_ F_ w_ => ∃ (j : Nat) (o : List (List UInt8)) (q1 : Option Addr) (c1 : Nat) (o1 : K.Cs), m_ = L.length - j ∧ K.Sl F_ [(0, .string (K.sb nm)), (1, .slice a L.length cap), (2, .func (.func 55) [].toArray [].toArray), (6, .string (K.sb [])), (7, .slice q1 o.length c1), (12, .slice a L.length cap), (13, .int .i64 ((L.length : Nat) : Int)), (14, .int .i64 ((j : Nat) : Int)), (28, undef)] ∧ j ≤ L.length ∧ o = nm :: (L.take j).map pR ∧ K.OwnG o1 9 1 q1 o.length c1 ((o).flatMap K.cStr) ∧ K.Sat w0 [o1, gx, fr] w_) ((fun (j : Nat) (o : List (List UInt8)) (q1 : Option Addr) (c1 : Nat) => L.length - j) 0 [nm] (some ⟨r_1, 0, none⟩) 1) ?_ ?_
  · -- begins
    exact ⟨0, [nm], (some ⟨r_1, 0, none⟩), 1, g_2, rfl, ⟨by rfl, by rfl, by rfl, by rfl, by rfl, by rfl, by rfl, by rfl, by rfl, trivial⟩, (by omega), (by simp), o_4, hS.pick [0, 1, 2]⟩
  · -- a round
    clear hS
    intro m_5 F_6 w hI
    obtain ⟨j, o, q1, c1, o1, rfl, sl_7, p_8, ho, x_9, hS⟩ := hI
    rw [← K.Sl.puts sl_7]; clear sl_7
    have hol : o.length = j + 1 := by rw [ho, List.length_cons, List.length_map, List.length_take]; omega
    refine K.KW.seq ?_
    -- 3 :150
    refine K.KW.region ?_
    by_cases h_10 : (((j : Nat) : Int) : Int) < (((L.length : Nat) : Int) : Int)
    ·  -- yes
      refine K.RW.q rfl rfl (K.QR.nice (v := .bool (decide ((((j : Nat) : Int) : Int) < (((L.length : Nat) : Int) : Int)))) (by kernel_rfl) (congrArg Value.bool (decide_eq_true h_10))) ?_
      refine K.RW.nil ?_
      refine K.thn_normal ?_
      refine K.KW.seq ?_
      refine K.KW.ifT rfl ?_
      refine K.KW.skip ?_
      refine K.thn_normal ?_
      refine K.KW.seq ?_
      refine K.KW.block ?_
      refine K.KW.seq ?_
      -- 4 :150
      obtain ⟨b_11, of_12, rfl, _⟩ := (hx _ (hS.pick [1])).at_ (by omega)
      refine K.KW.region ?_
      refine K.RW.q rfl rfl (K.QR.ix (of_12 + j * 2) 2 rfl rfl rfl Tryd.underlying44 (by kernel_rfl) (by omega) (by first | (simp; done) | omega | (simp; omega))) ?_
      refine K.RW.q rfl rfl (K.QR.ldN [.int .u32 ((L.getD j p0).key), .int .u32 ((L.getD j p0).val)] rfl rfl (by kernel_rfl) (by kernel_rfl) (K.cells (K.cl ((hx _ (hS.pick [1])).ld j (by omega) 0 _ rfl) (K.cl ((hx _ (hS.pick [1])).ld j (by omega) 1 _ rfl) K.cl0)))) ?_
      refine K.RW.l rfl (K.OW.gnew 92 [.int .u32 0, .int .u32 0] hS ?_)
      clear hS; intro w r_13 g_14 hg_15 hS
      refine K.RW.l rfl (K.OW.gst 0 [.int .u32 ((L.getD j p0).key), .int .u32 ((L.getD j p0).val)] [.int .u32 ((L.getD j p0).key), .int .u32 ((L.getD j p0).val)] hS hg_15 ?_)
      clear hS; intro w g_16 hg_17 hS
      replace hS : K.Sat w0 [g_16, o1, gx, fr] w := hS
      refine K.RW.nil ?_
      refine K.thn_normal ?_
      -- 5 :151
      refine K.KW.region ?_
      refine K.RW.qs [.slice q1 o.length c1, .func (.func 55) [].toArray [].toArray] (by kernel_rfl) ?_
      refine K.RW.q rfl rfl (K.QR.ldN [.int .u32 ((L.getD j p0).key), .int .u32 ((L.getD j p0).val)] rfl rfl (by kernel_rfl) (by kernel_rfl) (K.cells (K.cl ((hS.blk 0 rfl hg_17).cell rfl) (K.cl ((hS.blk 0 rfl hg_17).cell rfl) K.cl0)))) ?_
      refine K.RW.l rfl (K.OW.gcallw hS [] [0, 1, 2, 3] [.agg #[.int .u32 ((L.getD j p0).key), .int .u32 ((L.getD j p0).val)]] (pair_ok _ (⟨(L.getD j p0).key, (L.getD j p0).val⟩ : PairM) (hf j)) ?_)
      clear hS; rintro _ _ w ⟨rfl, rfl⟩ hS
      replace hS : K.Sat w0 [g_16, o1, gx, fr] w := hS
      refine K.RW.l rfl (K.OW.gbs [(0, .string (K.sb (pR (⟨(L.getD j p0).key, (L.getD j p0).val⟩ : PairM))))] [.string (K.sb (pR (⟨(L.getD j p0).key, (L.getD j p0).val⟩ : PairM)))] hS (fun w => K.bs_run (P := Tryd.prog) w 68 9 1 _ _ Tryd.underlying68 (by kernel_rfl)) ?_)
      clear hS; intro w r_18 g_19 hg_20 hS
      refine K.RW.l rfl (K.OW.gapp (P := Tryd.prog) (xs := (o).flatMap K.cStr) (z := .string (K.sb [])) (size := 1) (bytes := 16) 2 [.string (K.sb (pR (⟨(L.getD j p0).key, (L.getD j p0).val⟩ : PairM)))] hS x_9 ?_ (fun j u hj => (by rw [Nat.zero_add]; exact (hS.blk 0 rfl hg_20).cell hj)) (K.one_cells (by rfl)) (by rfl) Tryd.underlying68 (by kernel_rfl) rfl (by decide) (by unfold maxLen; omega) (by omega))
      clear hS; intro a_21 cap_22 w l_23 o_24 hS
      have ln_25 : ((o ++ [((pR (⟨(L.getD j p0).key, (L.getD j p0).val⟩ : PairM)) : List UInt8)])).length = o.length + 1 := by rw [List.length_append]; rfl
      have o_24c := K.OwnG.cast (xs' := ((o ++ [((pR (⟨(L.getD j p0).key, (L.getD j p0).val⟩ : PairM)) : List UInt8)])).flatMap K.cStr) o_24 rfl (K.fl_snoc K.cStr o _ rfl)
      replace hS : K.Sat w0 [g_19, g_16, l_23, gx, fr] w := hS
      refine K.RW.qs [.slice a_21 (o.length + 1) cap_22] (by kernel_rfl) ?_
      refine K.RW.nil ?_
      refine K.blk_normal ?_
      refine K.thn_normal ?_
      -- 6 :150
      refine K.KW.region ?_
      refine K.RW.q rfl rfl (K.QR.n64 ((((j : Nat) : Int) : Int) + (1 : Int)) ((j + 1 : Nat) : Int) (by kernel_rfl) (by omega)) ?_
      refine K.RW.qs [.int .i64 ((j + 1 : Nat) : Int)] (by kernel_rfl) ?_
      refine K.RW.nil ?_
      refine K.thn_normal ?_
      refine ⟨_, ?_, j + 1, (o ++ [((pR (⟨(L.getD j p0).key, (L.getD j p0).val⟩ : PairM)) : List UInt8)]), a_21, cap_22, l_23, rfl, ⟨by rfl, by rfl, by rfl, by rfl, congrArg (fun m_ => Value.slice a_21 m_ cap_22) (by first | rfl | (rw [List.length_append]; rfl) : o.length + 1 = ((o ++ [((pR (⟨(L.getD j p0).key, (L.getD j p0).val⟩ : PairM)) : List UInt8)])).length), by rfl, by rfl, by rfl, by rfl, trivial⟩, (by omega), (by rw [ho, map_take (d := p0) (by omega)]; rfl), (K.OwnG.cast o_24c (by first | rfl | (rw [List.length_append]; rfl)) rfl), hS.pick [2, 3, 4]⟩
      omega
    ·  -- no
      refine K.RW.q rfl rfl (K.QR.nice (v := .bool (decide ((((j : Nat) : Int) : Int) < (((L.length : Nat) : Int) : Int)))) (by kernel_rfl) (congrArg Value.bool (decide_eq_false h_10))) ?_
      refine K.RW.nil ?_
      refine K.thn_normal ?_
      refine K.KW.seq ?_
      refine K.KW.ifF rfl ?_
      refine K.KW.exit ?_
      refine K.thn_exit ?_
      refine K.thn_exit ?_
      refine K.blk_hit ?_
      refine K.thn_normal ?_
      refine K.KW.seq ?_
      -- 7 :153
      have ho2 : o = nm :: L.map pR := by rw [ho, List.take_of_length_le (by omega)]
      have hjl0 := jnrow_len (f := pR) (b := 41) (d := p0) (L := L) (nm := nm) (fun i => pR_len (hf i)) hn
      have hjl : (K.jn 32 o).length ≤ 140737488355328 := by rw [ho2]; omega
      refine K.KW.region ?_
      refine K.RW.qs [.slice q1 o.length c1] (by kernel_rfl) ?_
      refine K.RW.l rfl (K.OW.gcall hS [0] [1, 2] [.slice q1 o.length c1, .string (K.sb [32])] (join_ok _ _ _ 32 o _ (fun w h => K.RowE.len (K.Own.rowE [] (h.ownr 0 rfl x_9) rfl (fun _ => rfl)) rfl) (by have := x_9.le; first | omega | (simp; done) | (simp; omega)) (by have := x_9.le; first | omega | (simp; done) | (simp; omega)) (by have := x_9.le; first | omega | (simp; done) | (simp; omega)) (by exact hjl)) ?_)
      clear hS; rintro _ _ w ⟨rfl, rfl⟩ hS
      replace hS : K.Sat w0 [o1, gx, fr] w := hS
      refine K.RW.q rfl rfl (K.QR.sAdd (xs := (K.jn 32 o)) (ys := [10]) rfl rfl rfl (by (try simp only [List.length_append, List.length_cons, List.length_nil] at *); omega)) ?_
      refine K.RW.qs [.string (K.sb ((K.jn 32 o) ++ ([10] : List UInt8)))] (by kernel_rfl) ?_
      refine K.RW.nil ?_
      refine K.thn_normal ?_
      refine K.KW.ret ?_
      refine ⟨.inr rfl, rfl, (.string (K.sb ((K.jn 32 o) ++ ([10] : List UInt8)))), K.res1 rfl rfl, [gx], ?_, hS.pick [1, 2]⟩
      exact ⟨rfl, by unfold rowR; rw [ho2]⟩
set_option maxHeartbeats 4000000 in
set_option maxRecDepth 100000 in
theorem state_ok (w0 : World) (q s m : Option Addr) (cq cs cm : Nat) (S : StM) (hf : S.fits) (hw : S.few) (g1 : K.Cs) (x1 : ∀ w, K.Sat w0 [g1] w → K.RowE w q S.q.length 1 (fun i => cU32 (S.q.getD i 0))) (g2 : K.Cs) (x2 : ∀ w, K.Sat w0 [g2] w → K.RowE w s S.s.length 1 (fun i => cU32 (S.s.getD i 0))) (g3 : K.Cs) (x3 : ∀ w, K.Sat w0 [g3] w → K.RowE w m S.m.length 2 (fun i => cPair (S.m.getD i p0))) :
    K.GC Tryd.prog w0 16 #[.agg #[.slice q S.q.length cq, .slice s S.s.length cs, .slice m S.m.length cm]] [g1, g2, g3] (fun v post => post = [g1, g2, g3] ∧ v = .string (K.sb (stR S))) := by
  have hw1 := hw.1
  have hw2 := hw.2.1
  have hw3 := hw.2.2
  have hf1 := hf.1
  have hf2 := hf.2.1
  have hf3 := hf.2.2
  refine K.GC.mk (n := 14) Tryd.func16 rfl rfl [.agg #[.slice q S.q.length cq, .slice s S.s.length cs, .slice m S.m.length cm]] rfl rfl ?_
  intro fr w hS
  replace hS : K.Sat w0 [g1, g2, g3, fr] w := hS
  refine K.KW.seq ?_
  -- 0 :161
  refine K.KW.region ?_
  refine K.RW.l rfl (K.OW.gnew 46 [.slice q S.q.length cq, .slice s S.s.length cs, .slice m S.m.length cm] hS ?_)
  clear hS; intro w r_1 g_2 hg_3 hS
  refine K.RW.qs [.string (K.sb [])] (by kernel_rfl) ?_
  refine K.RW.nil ?_
  refine K.thn_normal ?_
  refine K.KW.seq ?_
  -- 1 :162
  refine K.KW.gdrawn [0] hS (by kernel_rfl) ?_
  clear hS; intro w hS
  refine K.DW.q 0 (by kernel_rfl) rfl rfl (by kernel_rfl) rfl (fun w hS => K.QR.k (v := .pointer (some ⟨r_1, 0, none⟩)) (by kernel_rfl)) (hS.pick [0]) ?_
  refine K.DW.q 1 (by kernel_rfl) rfl rfl (by kernel_rfl) rfl (fun w hS => K.QR.ld1 (v := .slice q S.q.length cq) rfl rfl (by kernel_rfl) ((hS.blk 0 rfl hg_3).cell rfl)) (hS.pick [0]) ?_
  refine K.DW.q 3 (by kernel_rfl) rfl rfl (by kernel_rfl) rfl (fun w hS => K.QR.k (v := .pointer (some ⟨r_1, 1, none⟩)) (by kernel_rfl)) (hS.pick [0]) ?_
  refine K.DW.q 4 (by kernel_rfl) rfl rfl (by kernel_rfl) rfl (fun w hS => K.QR.ld1 (v := .slice s S.s.length cs) rfl rfl (by kernel_rfl) ((hS.blk 0 rfl hg_3).cell rfl)) (hS.pick [0]) ?_
  refine K.DW.q 7 (by kernel_rfl) rfl rfl (by kernel_rfl) rfl (fun w hS => K.QR.k (v := .pointer (some ⟨r_1, 2, none⟩)) (by kernel_rfl)) (hS.pick [0]) ?_
  refine K.DW.q 8 (by kernel_rfl) rfl rfl (by kernel_rfl) rfl (fun w hS => K.QR.ld1 (v := .slice m S.m.length cm) rfl rfl (by kernel_rfl) ((hS.blk 0 rfl hg_3).cell rfl)) (hS.pick [0]) ?_
  refine K.DW.l 2 rfl (by kernel_rfl) rfl (K.OW.gcall hS [1] [0, 2, 3, 4] [.string (K.sb [113, 117, 101, 117, 101]), .slice q S.q.length cq, .func (.func 53) [].toArray [].toArray] (rowU_ok _ _ _ ([113, 117, 101, 117, 101] : List UInt8) S.q (by decide) (by first | omega | (simp; done)) (by assumption) _ x1) ?_)
  clear hS; rintro _ _ w ⟨rfl, rfl⟩ hS
  replace hS : K.Sat w0 [g1, g_2, g2, g3, fr] w := hS
  refine ⟨.inl (hS.pick [1]), ?_⟩
  refine K.DW.l 5 rfl (by kernel_rfl) rfl (K.OW.gcall hS [2] [0, 1, 3, 4] [.string (K.sb [115, 101, 116]), .slice s S.s.length cs, .func (.func 53) [].toArray [].toArray] (rowU_ok _ _ _ ([115, 101, 116] : List UInt8) S.s (by decide) (by first | omega | (simp; done)) (by assumption) _ x2) ?_)
  clear hS; rintro _ _ w ⟨rfl, rfl⟩ hS
  replace hS : K.Sat w0 [g2, g1, g_2, g3, fr] w := hS
  refine ⟨.inl (hS.pick [2]), ?_⟩
  refine K.DW.q 6 (by kernel_rfl) rfl rfl (by kernel_rfl) rfl (fun w hS => K.QR.sAdd (xs := (rowR ([113, 117, 101, 117, 101] : List UInt8) vR S.q)) (ys := (rowR ([115, 101, 116] : List UInt8) vR S.s)) rfl rfl rfl (by have a1 := rowR_len (f := vR) (b := 20) (d := 0) (L := S.q) (nm := [113, 117, 101, 117, 101]) (fun i => vR_len (hf1 i)) (by decide); have a2 := rowR_len (f := vR) (b := 20) (d := 0) (L := S.s) (nm := [115, 101, 116]) (fun i => vR_len (hf2 i)) (by decide); have a3 := rowR_len (f := pR) (b := 41) (d := p0) (L := S.m) (nm := [109, 97, 112]) (fun i => pR_len (hf3 i)) (by decide); (try simp only [List.length_append, List.length_cons, List.length_nil] at *); omega)) (hS.pick [2]) ?_
  refine K.DW.l 9 rfl (by kernel_rfl) rfl (K.OW.gcall hS [3] [0, 1, 2, 4] [.string (K.sb [109, 97, 112]), .slice m S.m.length cm, .func (.func 55) [].toArray [].toArray] (rowP_ok _ _ _ ([109, 97, 112] : List UInt8) S.m (by decide) (by first | omega | (simp; done)) (by assumption) _ x3) ?_)
  clear hS; rintro _ _ w ⟨rfl, rfl⟩ hS
  replace hS : K.Sat w0 [g3, g2, g1, g_2, fr] w := hS
  refine ⟨.inl (hS.pick [3]), ?_⟩
  refine K.DW.l 10 rfl (by kernel_rfl) rfl (K.OW.q rfl (K.QR.sAdd (xs := ((rowR ([113, 117, 101, 117, 101] : List UInt8) vR S.q) ++ (rowR ([115, 101, 116] : List UInt8) vR S.s))) (ys := (rowR ([109, 97, 112] : List UInt8) pR S.m)) rfl rfl rfl (by have a1 := rowR_len (f := vR) (b := 20) (d := 0) (L := S.q) (nm := [113, 117, 101, 117, 101]) (fun i => vR_len (hf1 i)) (by decide); have a2 := rowR_len (f := vR) (b := 20) (d := 0) (L := S.s) (nm := [115, 101, 116]) (fun i => vR_len (hf2 i)) (by decide); have a3 := rowR_len (f := pR) (b := 41) (d := p0) (L := S.m) (nm := [109, 97, 112]) (fun i => pR_len (hf3 i)) (by decide); (try simp only [List.length_append, List.length_cons, List.length_nil] at *); omega)) ?_)
  refine ⟨.inl (hS.pick [3]), ?_⟩
  refine K.DW.l 11 rfl (by kernel_rfl) rfl (K.OW.q rfl (K.QR.k (v := .string (K.sb (((rowR ([113, 117, 101, 117, 101] : List UInt8) vR S.q) ++ (rowR ([115, 101, 116] : List UInt8) vR S.s)) ++ (rowR ([109, 97, 112] : List UInt8) pR S.m)))) (by kernel_rfl)) ?_)
  refine ⟨.inl (hS.pick [3]), ?_⟩
  refine K.DW.done (by kernel_rfl) ?_
  refine K.thn_normal ?_
  refine K.KW.ret ?_
  refine ⟨.inr rfl, rfl, (.string (K.sb (((rowR ([113, 117, 101, 117, 101] : List UInt8) vR S.q) ++ (rowR ([115, 101, 116] : List UInt8) vR S.s)) ++ (rowR ([109, 97, 112] : List UInt8) pR S.m)))), K.res1 rfl rfl, [g1, g2, g3], ?_, hS.pick [2, 1, 0, 4]⟩
  exact ⟨rfl, rfl⟩
end Go.Proofs.YtnehocjmgnhhhaaDoor
