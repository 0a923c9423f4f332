import Derived.Test.YtnehocjmgnhhhaaDoorFrt
import Derived.Test.YtnehocjmgnhhhaaDoorFsr
/- Reports: the document's State. -/
namespace Go.Proofs.YtnehocjmgnhhhaaDoor
open Go.RowKit
set_option linter.unusedVariables false
attribute [local irreducible] K.KW K.RW K.DW K.OW K.QR K.KC
/-- words behind one another, a blank ahead of each -/
def flR {α : Type} (f : α → List UInt8) (L : List α) : List UInt8 := (L.map fun x => 32 :: f x).flatten
theorem flR_next {α : Type} {f : α → List UInt8} {d : α} {L : List α} {j : Nat} (h : j < L.length) : flR f (L.take (j + 1)) = flR f (L.take j) ++ 32 :: f (L.getD j d) := by
  unfold flR
  rw [List.take_succ_eq_append_getElem h, List.map_append, List.flatten_append]
  simp [h]
theorem jn_flR {α : Type} {f : α → List UInt8} : ∀ {L : List α} {nm : List UInt8}, K.jn 32 (nm :: L.map f) = nm ++ flR f L
  | [], nm => by simp [K.jn, flR]
  | a :: r, nm => by
    show nm ++ 32 :: K.jn 32 (f a :: r.map f) = _
    rw [jn_flR (L := r)]; simp [flR]
theorem rowR_fl {α : Type} {nm : List UInt8} {f : α → List UInt8} {L : List α} : rowR nm f L = nm ++ flR f L ++ [10] := by unfold rowR; rw [jn_flR]
set_option maxHeartbeats 8000000 in
set_option maxRecDepth 100000 in
theorem rst_ok (w0 : World) (q s m : Option Addr) (cq cs cm : Nat) (S : StM) (hf : S.fits) (hw : S.few) (g1 : K.Cs) (x1 : ∀ w, K.Sat w0 [g1] w → K.RowE w q S.q.length 1 (fun i => cU32 (S.q.getD i 0))) (g2 : K.Cs) (x2 : ∀ w, K.Sat w0 [g2] w → K.RowE w s S.s.length 1 (fun i => cU32 (S.s.getD i 0))) (g3 : K.Cs) (x3 : ∀ w, K.Sat w0 [g3] w → K.RowE w m S.m.length 2 (fun i => cPair (S.m.getD i p0))) :
    K.GC Tryd.prog w0 18 #[.agg #[.slice q S.q.length cq, .slice s S.s.length cs, .slice m S.m.length cm]] [g1, g2, g3] (fun v post => post = [g1, g2, g3] ∧ v = .string (K.sb (stR S))) := by
  have hw1 := hw.1
  have hw2 := hw.2.1
  have hw3 := hw.2.2
  have hf1 := hf.1
  have hf2 := hf.2.1
  have hf3 := hf.2.2
  refine K.GC.mk (n := 75) Tryd.func18 rfl rfl [.agg #[.slice q S.q.length cq, .slice s S.s.length cs, .slice m S.m.length cm]] rfl rfl ?_
  intro fr w hS
  replace hS : K.Sat w0 [g1, g2, g3, fr] w := hS
  refine K.KW.seq ?_
  -- 0 :119
  refine K.KW.region ?_
  refine K.RW.l rfl (K.OW.gnew 46 [.slice q S.q.length cq, .slice s S.s.length cs, .slice m S.m.length cm] hS ?_)
  clear hS; intro w r_1 g_2 hg_3 hS
  refine K.RW.qs [.string (K.sb [])] (by kernel_rfl) ?_
  refine K.RW.nil ?_
  refine K.thn_normal ?_
  refine K.KW.seq ?_
  -- 1 :120
  refine K.KW.region ?_
  refine K.RW.qs [.string (K.sb [113, 117, 101, 117, 101])] (by kernel_rfl) ?_
  refine K.RW.nil ?_
  refine K.thn_normal ?_
  refine K.KW.seq ?_
  refine K.KW.seq ?_
  -- 2 :121
  refine K.KW.region ?_
  refine K.RW.qs [.int .i64 0] (by kernel_rfl) ?_
  refine K.RW.nil ?_
  refine K.thn_normal ?_
  refine K.KW.block ?_
  refine K.KW.loop (fun m_ F_ w_ => ∃ (i : Nat) (o1 : List UInt8), m_ = S.q.length - i ∧ K.Sl F_ [(0, .agg #[.slice q S.q.length cq, .slice s S.s.length cs, .slice m S.m.length cm]), (1, .pointer (some ⟨r_1, 0, none⟩)), (2, .string (K.sb [])), (3, .string (K.sb o1)), (4, .int .i64 ((i : Nat) : Int)), (75, undef)] ∧ i ≤ S.q.length ∧ o1 = qN ++ flR vR (S.q.take i) ∧ o1.length ≤ 5 + 21 * i ∧ K.Sat w0 [g_2, g1, g2, g3, fr] w_) ((fun (i : Nat) (o1 : List UInt8) => S.q.length - i) 0 qN) ?_ ?_
  · -- begins
    exact ⟨0, qN, rfl, ⟨by rfl, by rfl, by rfl, by rfl, by rfl, by rfl, trivial⟩, (by omega), (rfl), (by decide), hS.pick [0, 1, 2, 3, 4]⟩
  · -- a round
    clear hS
    intro m_4 F_5 w hI
    obtain ⟨i, o1, rfl, sl_6, p_7, ho1, hl1, hS⟩ := hI
    rw [← K.Sl.puts sl_6]; clear sl_6
    refine K.KW.seq ?_
    refine K.KW.seq ?_
    -- 3 :121
    refine K.KW.region ?_
    refine K.RW.qs [.int .i64 ((i : Nat) : Int), .pointer (some ⟨r_1, 0, none⟩)] (by kernel_rfl) ?_
    refine K.RW.q rfl rfl (K.QR.ld1 (v := .slice q S.q.length cq) rfl rfl (by kernel_rfl) ((hS.blk 0 rfl hg_3).cell rfl)) ?_
    refine K.RW.q rfl rfl (K.QR.len (P := Tryd.prog) rfl rfl Tryd.underlying43) ?_
    by_cases h_8 : (((i : Nat) : Int) : Int) < (((S.q.length : Nat) : Int) : Int)
    ·  -- yes
      refine K.RW.q rfl rfl (K.QR.nice (v := .bool (decide ((((i : Nat) : Int) : Int) < (((S.q.length : Nat) : Int) : Int)))) (by kernel_rfl) (congrArg Value.bool (decide_eq_true h_8))) ?_
      refine K.RW.nil ?_
      refine K.thn_normal ?_
      refine K.KW.ifT rfl ?_
      refine K.KW.skip ?_
      refine K.thn_normal ?_
      refine K.KW.seq ?_
      refine K.KW.block ?_
      -- 5 :122
      obtain ⟨b_9, of_10, rfl, _⟩ := (x1 _ (hS.pick [1])).at_ (by omega)
      have h9 := (hf1 i)
      unfold isU32 at h9
      have h10 := vR_len (hf1 i)
      unfold vR at h10
      refine K.KW.region ?_
      refine K.RW.qs [.string (K.sb o1)] (by kernel_rfl) ?_
      refine K.RW.q rfl rfl (K.QR.sAdd (xs := o1) (ys := [32]) rfl rfl rfl (by (try simp only [List.length_append, List.length_cons, List.length_nil] at *); omega)) ?_
      refine K.RW.qs [.pointer (some ⟨r_1, 0, none⟩)] (by kernel_rfl) ?_
      refine K.RW.q rfl rfl (K.QR.ld1 (v := .slice (some ⟨b_9, of_10, none⟩) S.q.length cq) rfl rfl (by kernel_rfl) ((hS.blk 0 rfl hg_3).cell rfl)) ?_
      refine K.RW.qs [.int .i64 ((i : Nat) : Int)] (by kernel_rfl) ?_
      refine K.RW.q rfl rfl (K.QR.ix (of_10 + i * 1) 1 rfl rfl rfl Tryd.underlying43 (by kernel_rfl) (by omega) (by first | (simp; done) | omega | (simp; omega))) ?_
      refine K.RW.q rfl rfl (K.QR.ld1 (v := .int .u32 (S.q.getD i 0)) rfl rfl (by kernel_rfl) ((x1 _ (hS.pick [1])).ld i (by omega) 0 _ rfl)) ?_
      refine K.RW.q rfl rfl (K.QR.nice (v := .int .i64 (IntKind.i64.wrap (S.q.getD i 0))) (by kernel_rfl) (congrArg (Value.int .i64) (IntWalk.i64_in _ (by omega)))) ?_
      refine K.RW.l rfl (K.OW.gcall hS [] [0, 1, 2, 3, 4] [.int .i64 (S.q.getD i 0)] (rdigitsI_ok _ (S.q.getD i 0) (by omega) (by omega)) ?_)
      clear hS; rintro _ _ w ⟨rfl, rfl⟩ hS
      replace hS : K.Sat w0 [g_2, g1, g2, g3, fr] w := hS
      refine K.RW.q rfl rfl (K.QR.sAdd (xs := (o1 ++ ([32] : List UInt8))) (ys := (dg (S.q.getD i 0).toNat)) rfl rfl rfl (by (try simp only [List.length_append, List.length_cons, List.length_nil] at *); omega)) ?_
      refine K.RW.qs [.string (K.sb ((o1 ++ ([32] : List UInt8)) ++ (dg (S.q.getD i 0).toNat)))] (by kernel_rfl) ?_
      refine K.RW.nil ?_
      refine K.blk_normal ?_
      refine K.thn_normal ?_
      -- 4 :121
      refine K.KW.region ?_
      refine K.RW.qs [.int .i64 ((i : Nat) : Int)] (by kernel_rfl) ?_
      refine K.RW.q rfl rfl (K.QR.n64 ((((i : Nat) : Int) : Int) + (1 : Int)) ((i + 1 : Nat) : Int) (by kernel_rfl) (by omega)) ?_
      refine K.RW.qs [.int .i64 ((i + 1 : Nat) : Int)] (by kernel_rfl) ?_
      refine K.RW.nil ?_
      refine K.thn_normal ?_
      refine ⟨_, ?_, i + 1, ((o1 ++ ([32] : List UInt8)) ++ (dg (S.q.getD i 0).toNat)), rfl, ⟨by rfl, by rfl, by rfl, by rfl, by rfl, by rfl, trivial⟩, (by omega), (by rw [ho1, flR_next (d := 0) (by omega)]; simp [vR]), (by (simp only [List.length_append, List.length_cons, List.length_nil]; omega)), hS.pick [0, 1, 2, 3, 4]⟩
      omega
    ·  -- no
      refine K.RW.q rfl rfl (K.QR.nice (v := .bool (decide ((((i : Nat) : Int) : Int) < (((S.q.length : Nat) : Int) : Int)))) (by kernel_rfl) (congrArg Value.bool (decide_eq_false h_8))) ?_
      refine K.RW.nil ?_
      refine K.thn_normal ?_
      refine K.KW.ifF rfl ?_
      refine K.KW.exit ?_
      refine K.thn_exit ?_
      refine K.thn_exit ?_
      refine K.blk_hit ?_
      refine K.thn_normal ?_
      refine K.KW.seq ?_
      -- 6 :124
      have e1 : S.q.take i = S.q := List.take_of_length_le (by omega)
      rw [e1] at ho1
      refine K.KW.region ?_
      refine K.RW.qs [.string (K.sb o1)] (by kernel_rfl) ?_
      refine K.RW.q rfl rfl (K.QR.sAdd (xs := o1) (ys := [10, 115, 101, 116]) rfl rfl rfl (by (try simp only [List.length_append, List.length_cons, List.length_nil] at *); omega)) ?_
      refine K.RW.qs [.string (K.sb (o1 ++ ([10, 115, 101, 116] : List UInt8)))] (by kernel_rfl) ?_
      refine K.RW.nil ?_
      refine K.thn_normal ?_
      refine K.KW.seq ?_
      refine K.KW.seq ?_
      -- 7 :125
      refine K.KW.region ?_
      refine K.RW.qs [.int .i64 0] (by kernel_rfl) ?_
      refine K.RW.nil ?_
      refine K.thn_normal ?_
      refine K.KW.block ?_
      refine K.KW.loop (fun m_ F_ w_ => ∃ (j : Nat) (o2 : List UInt8), m_ = S.s.length - j ∧ K.Sl F_ [(0, .agg #[.slice q S.q.length cq, .slice s S.s.length cs, .slice m S.m.length cm]), (1, .pointer (some ⟨r_1, 0, none⟩)), (2, .string (K.sb [])), (3, .string (K.sb o2)), (5, .int .i64 ((j : Nat) : Int)), (75, undef)] ∧ j ≤ S.s.length ∧ o2 = rowR qN vR S.q ++ (sN ++ flR vR (S.s.take j)) ∧ o2.length ≤ 22000 + 21 * j ∧ K.Sat w0 [g_2, g1, g2, g3, fr] w_) ((fun (j : Nat) (o2 : List UInt8) => S.s.length - j) 0 (o1 ++ ([10, 115, 101, 116] : List UInt8))) ?_ ?_
      · -- begins
        exact ⟨0, (o1 ++ ([10, 115, 101, 116] : List UInt8)), rfl, ⟨by rfl, by rfl, by rfl, by rfl, by rfl, by rfl, trivial⟩, (by omega), (by rw [rowR_fl, ho1]; simp [sN, flR]), (by (simp only [List.length_append, List.length_cons, List.length_nil]; omega)), hS.pick [0, 1, 2, 3, 4]⟩
      · -- a round
        clear hS
        intro m_11 F_12 w hI
        obtain ⟨j, o2, rfl, sl_13, p_14, ho2, hl2, hS⟩ := hI
        rw [← K.Sl.puts sl_13]; clear sl_13
        refine K.KW.seq ?_
        refine K.KW.seq ?_
        -- 8 :125
        refine K.KW.region ?_
        refine K.RW.qs [.int .i64 ((j : Nat) : Int), .pointer (some ⟨r_1, 1, none⟩)] (by kernel_rfl) ?_
        refine K.RW.q rfl rfl (K.QR.ld1 (v := .slice s S.s.length cs) rfl rfl (by kernel_rfl) ((hS.blk 0 rfl hg_3).cell rfl)) ?_
        refine K.RW.q rfl rfl (K.QR.len (P := Tryd.prog) rfl rfl Tryd.underlying43) ?_
        by_cases h_15 : (((j : Nat) : Int) : Int) < (((S.s.length : Nat) : Int) : Int)
        ·  -- yes
          refine K.RW.q rfl rfl (K.QR.nice (v := .bool (decide ((((j : Nat) : Int) : Int) < (((S.s.length : Nat) : Int) : Int)))) (by kernel_rfl) (congrArg Value.bool (decide_eq_true h_15))) ?_
          refine K.RW.nil ?_
          refine K.thn_normal ?_
          refine K.KW.ifT rfl ?_
          refine K.KW.skip ?_
          refine K.thn_normal ?_
          refine K.KW.seq ?_
          refine K.KW.block ?_
          -- 10 :126
          obtain ⟨b_16, of_17, rfl, _⟩ := (x2 _ (hS.pick [2])).at_ (by omega)
          have h9 := (hf2 j)
          unfold isU32 at h9
          have h10 := vR_len (hf2 j)
          unfold vR at h10
          refine K.KW.region ?_
          refine K.RW.qs [.string (K.sb o2)] (by kernel_rfl) ?_
          refine K.RW.q rfl rfl (K.QR.sAdd (xs := o2) (ys := [32]) rfl rfl rfl (by (try simp only [List.length_append, List.length_cons, List.length_nil] at *); omega)) ?_
          refine K.RW.qs [.pointer (some ⟨r_1, 1, none⟩)] (by kernel_rfl) ?_
          refine K.RW.q rfl rfl (K.QR.ld1 (v := .slice (some ⟨b_16, of_17, none⟩) S.s.length cs) rfl rfl (by kernel_rfl) ((hS.blk 0 rfl hg_3).cell rfl)) ?_
          refine K.RW.qs [.int .i64 ((j : Nat) : Int)] (by kernel_rfl) ?_
          refine K.RW.q rfl rfl (K.QR.ix (of_17 + j * 1) 1 rfl rfl rfl Tryd.underlying43 (by kernel_rfl) (by omega) (by first | (simp; done) | omega | (simp; omega))) ?_
          refine K.RW.q rfl rfl (K.QR.ld1 (v := .int .u32 (S.s.getD j 0)) rfl rfl (by kernel_rfl) ((x2 _ (hS.pick [2])).ld j (by omega) 0 _ rfl)) ?_
          refine K.RW.q rfl rfl (K.QR.nice (v := .int .i64 (IntKind.i64.wrap (S.s.getD j 0))) (by kernel_rfl) (congrArg (Value.int .i64) (IntWalk.i64_in _ (by omega)))) ?_
          refine K.RW.l rfl (K.OW.gcall hS [] [0, 1, 2, 3, 4] [.int .i64 (S.s.getD j 0)] (rdigitsI_ok _ (S.s.getD j 0) (by omega) (by omega)) ?_)
          clear hS; rintro _ _ w ⟨rfl, rfl⟩ hS
          replace hS : K.Sat w0 [g_2, g1, g2, g3, fr] w := hS
          refine K.RW.q rfl rfl (K.QR.sAdd (xs := (o2 ++ ([32] : List UInt8))) (ys := (dg (S.s.getD j 0).toNat)) rfl rfl rfl (by (try simp only [List.length_append, List.length_cons, List.length_nil] at *); omega)) ?_
          refine K.RW.qs [.string (K.sb ((o2 ++ ([32] : List UInt8)) ++ (dg (S.s.getD j 0).toNat)))] (by kernel_rfl) ?_
          refine K.RW.nil ?_
          refine K.blk_normal ?_
          refine K.thn_normal ?_
          -- 9 :125
          refine K.KW.region ?_
          refine K.RW.qs [.int .i64 ((j : Nat) : Int)] (by kernel_rfl) ?_
          refine K.RW.q rfl rfl (K.QR.n64 ((((j : Nat) : Int) : Int) + (1 : Int)) ((j + 1 : Nat) : Int) (by kernel_rfl) (by omega)) ?_
          refine K.RW.qs [.int .i64 ((j + 1 : Nat) : Int)] (by kernel_rfl) ?_
          refine K.RW.nil ?_
          refine K.thn_normal ?_
          refine ⟨_, ?_, j + 1, ((o2 ++ ([32] : List UInt8)) ++ (dg (S.s.getD j 0).toNat)), rfl, ⟨by rfl, by rfl, by rfl, by rfl, by rfl, by rfl, trivial⟩, (by omega), (by rw [ho2, flR_next (d := 0) (by omega)]; simp [vR]), (by (simp only [List.length_append, List.length_cons, List.length_nil]; omega)), hS.pick [0, 1, 2, 3, 4]⟩
          omega
        ·  -- no
          refine K.RW.q rfl rfl (K.QR.nice (v := .bool (decide ((((j : Nat) : Int) : Int) < (((S.s.length : Nat) : Int) : Int)))) (by kernel_rfl) (congrArg Value.bool (decide_eq_false h_15))) ?_
          refine K.RW.nil ?_
          refine K.thn_normal ?_
          refine K.KW.ifF rfl ?_
          refine K.KW.exit ?_
          refine K.thn_exit ?_
          refine K.thn_exit ?_
          refine K.blk_hit ?_
          refine K.thn_normal ?_
          refine K.KW.seq ?_
          -- 11 :128
          have e2 : S.s.take j = S.s := List.take_of_length_le (by omega)
          rw [e2] at ho2
          refine K.KW.region ?_
          refine K.RW.qs [.string (K.sb o2)] (by kernel_rfl) ?_
          refine K.RW.q rfl rfl (K.QR.sAdd (xs := o2) (ys := [10, 109, 97, 112]) rfl rfl rfl (by (try simp only [List.length_append, List.length_cons, List.length_nil] at *); omega)) ?_
          refine K.RW.qs [.string (K.sb (o2 ++ ([10, 109, 97, 112] : List UInt8)))] (by kernel_rfl) ?_
          refine K.RW.nil ?_
          refine K.thn_normal ?_
          refine K.KW.seq ?_
          refine K.KW.seq ?_
          -- 12 :129
          refine K.KW.region ?_
          refine K.RW.qs [.int .i64 0] (by kernel_rfl) ?_
          refine K.RW.nil ?_
          refine K.thn_normal ?_
          refine K.KW.block ?_
          refine K.KW.loop (fun m_ F_ w_ => ∃ (k : Nat) (o3 : List UInt8), m_ = S.m.length - k ∧ K.Sl F_ [(0, .agg #[.slice q S.q.length cq, .slice s S.s.length cs, .slice m S.m.length cm]), (1, .pointer (some ⟨r_1, 0, none⟩)), (2, .string (K.sb [])), (3, .string (K.sb o3)), (6, .int .i64 ((k : Nat) : Int)), (75, undef)] ∧ k ≤ S.m.length ∧ o3 = rowR qN vR S.q ++ (rowR sN vR S.s ++ (mN ++ flR pR (S.m.take k))) ∧ o3.length ≤ 44000 + 42 * k ∧ K.Sat w0 [g_2, g1, g2, g3, fr] w_) ((fun (k : Nat) (o3 : List UInt8) => S.m.length - k) 0 (o2 ++ ([10, 109, 97, 112] : List UInt8))) ?_ ?_
          · -- begins
            exact ⟨0, (o2 ++ ([10, 109, 97, 112] : List UInt8)), rfl, ⟨by rfl, by rfl, by rfl, by rfl, by rfl, by rfl, trivial⟩, (by omega), (by rw [rowR_fl (nm := sN), ho2]; simp [mN, flR]), (by (simp only [List.length_append, List.length_cons, List.length_nil]; omega)), hS.pick [0, 1, 2, 3, 4]⟩
          · -- a round
            clear hS
            intro m_18 F_19 w hI
            obtain ⟨k, o3, rfl, sl_20, p_21, ho3, hl3, hS⟩ := hI
            rw [← K.Sl.puts sl_20]; clear sl_20
            refine K.KW.seq ?_
            refine K.KW.seq ?_
            -- 13 :129
            refine K.KW.region ?_
            refine K.RW.qs [.int .i64 ((k : Nat) : Int), .pointer (some ⟨r_1, 2, none⟩)] (by kernel_rfl) ?_
            refine K.RW.q rfl rfl (K.QR.ld1 (v := .slice m S.m.length cm) rfl rfl (by kernel_rfl) ((hS.blk 0 rfl hg_3).cell rfl)) ?_
            refine K.RW.q rfl rfl (K.QR.len (P := Tryd.prog) rfl rfl Tryd.underlying44) ?_
            by_cases h_22 : (((k : Nat) : Int) : Int) < (((S.m.length : Nat) : Int) : Int)
            ·  -- yes
              refine K.RW.q rfl rfl (K.QR.nice (v := .bool (decide ((((k : Nat) : Int) : Int) < (((S.m.length : Nat) : Int) : Int)))) (by kernel_rfl) (congrArg Value.bool (decide_eq_true h_22))) ?_
              refine K.RW.nil ?_
              refine K.thn_normal ?_
              refine K.KW.ifT rfl ?_
              refine K.KW.skip ?_
              refine K.thn_normal ?_
              refine K.KW.seq ?_
              refine K.KW.block ?_
              -- 15 :130
              obtain ⟨b_23, of_24, rfl, _⟩ := (x3 _ (hS.pick [3])).at_ (by omega)
              have h9 := hf3 k
              have h8 := h9
              unfold isP isU32 at h8
              have h10 := vR_len h9.1
              have h11 := vR_len h9.2
              unfold vR at h10 h11
              refine K.KW.gdrawn [0, 3] hS (by kernel_rfl) ?_
              clear hS; intro w hS
              refine K.DW.q 0 (by kernel_rfl) rfl rfl (by kernel_rfl) rfl (fun w hS => K.QR.k (v := .string (K.sb o3)) (by kernel_rfl)) (hS.pick [0, 3]) ?_
              refine K.DW.q 1 (by kernel_rfl) rfl rfl (by kernel_rfl) rfl (fun w hS => K.QR.sAdd (xs := o3) (ys := [32]) rfl rfl rfl (by (try simp only [List.length_append, List.length_cons, List.length_nil] at *); omega)) (hS.pick [0, 3]) ?_
              refine K.DW.q 2 (by kernel_rfl) rfl rfl (by kernel_rfl) rfl (fun w hS => K.QR.k (v := .pointer (some ⟨r_1, 2, none⟩)) (by kernel_rfl)) (hS.pick [0, 3]) ?_
              refine K.DW.q 3 (by kernel_rfl) rfl rfl (by kernel_rfl) rfl (fun w hS => K.QR.ld1 (v := .slice (some ⟨b_23, of_24, none⟩) S.m.length cm) rfl rfl (by kernel_rfl) ((hS.blk 0 rfl hg_3).cell rfl)) (hS.pick [0, 3]) ?_
              refine K.DW.q 4 (by kernel_rfl) rfl rfl (by kernel_rfl) rfl (fun w hS => K.QR.k (v := .int .i64 ((k : Nat) : Int)) (by kernel_rfl)) (hS.pick [0, 3]) ?_
              refine K.DW.q 5 (by kernel_rfl) rfl rfl (by kernel_rfl) rfl (fun w hS => K.QR.ix (of_24 + k * 2) 2 rfl rfl rfl Tryd.underlying44 (by kernel_rfl) (by omega) (by first | (simp; done) | omega | (simp; omega))) (hS.pick [0, 3]) ?_
              refine K.DW.q 6 (by kernel_rfl) rfl rfl (by kernel_rfl) rfl (fun w hS => K.QR.k (v := .pointer (some ⟨b_23, of_24 + k * 2, none⟩)) (by kernel_rfl)) (hS.pick [0, 3]) ?_
              refine K.DW.q 7 (by kernel_rfl) rfl rfl (by kernel_rfl) rfl (fun w hS => K.QR.ld1 (v := .int .u32 ((S.m.getD k p0).key)) rfl rfl (by kernel_rfl) ((x3 _ (hS.pick [1])).ld k (by omega) 0 _ rfl)) (hS.pick [0, 3]) ?_
              refine K.DW.q 8 (by kernel_rfl) rfl rfl (by kernel_rfl) rfl (fun w hS => K.QR.nice (v := .int .i64 (IntKind.i64.wrap ((S.m.getD k p0).key))) (by kernel_rfl) (congrArg (Value.int .i64) (IntWalk.i64_in _ (by omega)))) (hS.pick [0, 3]) ?_
              refine K.DW.q 12 (by kernel_rfl) rfl rfl (by kernel_rfl) rfl (fun w hS => K.QR.k (v := .pointer (some ⟨r_1, 2, none⟩)) (by kernel_rfl)) (hS.pick [0, 3]) ?_
              refine K.DW.q 13 (by kernel_rfl) rfl rfl (by kernel_rfl) rfl (fun w hS => K.QR.ld1 (v := .slice (some ⟨b_23, of_24, none⟩) S.m.length cm) rfl rfl (by kernel_rfl) ((hS.blk 0 rfl hg_3).cell rfl)) (hS.pick [0, 3]) ?_
              refine K.DW.q 14 (by kernel_rfl) rfl rfl (by kernel_rfl) rfl (fun w hS => K.QR.k (v := .int .i64 ((k : Nat) : Int)) (by kernel_rfl)) (hS.pick [0, 3]) ?_
              refine K.DW.q 15 (by kernel_rfl) rfl rfl (by kernel_rfl) rfl (fun w hS => K.QR.ix (of_24 + k * 2) 2 rfl rfl rfl Tryd.underlying44 (by kernel_rfl) (by omega) (by first | (simp; done) | omega | (simp; omega))) (hS.pick [0, 3]) ?_
              refine K.DW.q 16 (by kernel_rfl) rfl rfl (by kernel_rfl) rfl (fun w hS => K.QR.k (v := .pointer (some ⟨b_23, of_24 + k * 2 + 1, none⟩)) (by kernel_rfl)) (hS.pick [0, 3]) ?_
              refine K.DW.q 17 (by kernel_rfl) rfl rfl (by kernel_rfl) rfl (fun w hS => K.QR.ld1 (v := .int .u32 ((S.m.getD k p0).val)) rfl rfl (by kernel_rfl) ((x3 _ (hS.pick [1])).ld k (by omega) 1 _ rfl)) (hS.pick [0, 3]) ?_
              refine K.DW.q 18 (by kernel_rfl) rfl rfl (by kernel_rfl) rfl (fun w hS => K.QR.nice (v := .int .i64 (IntKind.i64.wrap ((S.m.getD k p0).val))) (by kernel_rfl) (congrArg (Value.int .i64) (IntWalk.i64_in _ (by omega)))) (hS.pick [0, 3]) ?_
              refine K.DW.l 9 rfl (by kernel_rfl) rfl (K.OW.gcall hS [] [0, 1, 2, 3, 4] [.int .i64 ((S.m.getD k p0).key)] (rdigitsI_ok _ ((S.m.getD k p0).key) (by omega) (by omega)) ?_)
              clear hS; rintro _ _ w ⟨rfl, rfl⟩ hS
              replace hS : K.Sat w0 [g_2, g1, g2, g3, fr] w := hS
              refine ⟨.inl (hS.pick [0, 3]), ?_⟩
              refine K.DW.q 10 (by kernel_rfl) rfl rfl (by kernel_rfl) rfl (fun w hS => K.QR.sAdd (xs := (o3 ++ ([32] : List UInt8))) (ys := (dg ((S.m.getD k p0).key).toNat)) rfl rfl rfl (by (try simp only [List.length_append, List.length_cons, List.length_nil] at *); omega)) (hS.pick [0, 3]) ?_
              refine K.DW.q 11 (by kernel_rfl) rfl rfl (by kernel_rfl) rfl (fun w hS => K.QR.sAdd (xs := ((o3 ++ ([32] : List UInt8)) ++ (dg ((S.m.getD k p0).key).toNat))) (ys := [61]) rfl rfl rfl (by (try simp only [List.length_append, List.length_cons, List.length_nil] at *); omega)) (hS.pick [0, 3]) ?_
              refine K.DW.l 19 rfl (by kernel_rfl) rfl (K.OW.gcall hS [] [0, 1, 2, 3, 4] [.int .i64 ((S.m.getD k p0).val)] (rdigitsI_ok _ ((S.m.getD k p0).val) (by omega) (by omega)) ?_)
              clear hS; rintro _ _ w ⟨rfl, rfl⟩ hS
              replace hS : K.Sat w0 [g_2, g1, g2, g3, fr] w := hS
              refine ⟨.inl (hS.pick [0, 3]), ?_⟩
              refine K.DW.l 20 rfl (by kernel_rfl) rfl (K.OW.q rfl (K.QR.sAdd (xs := (((o3 ++ ([32] : List UInt8)) ++ (dg ((S.m.getD k p0).key).toNat)) ++ ([61] : List UInt8))) (ys := (dg ((S.m.getD k p0).val).toNat)) rfl rfl rfl (by (try simp only [List.length_append, List.length_cons, List.length_nil] at *); omega)) ?_)
              refine ⟨.inl (hS.pick [0, 3]), ?_⟩
              refine K.DW.l 21 rfl (by kernel_rfl) rfl (K.OW.q rfl (K.QR.k (v := .string (K.sb ((((o3 ++ ([32] : List UInt8)) ++ (dg ((S.m.getD k p0).key).toNat)) ++ ([61] : List UInt8)) ++ (dg ((S.m.getD k p0).val).toNat)))) (by kernel_rfl)) ?_)
              refine ⟨.inl (hS.pick [0, 3]), ?_⟩
              refine K.DW.done (by kernel_rfl) ?_
              refine K.blk_normal ?_
              refine K.thn_normal ?_
              -- 14 :129
              refine K.KW.region ?_
              refine K.RW.qs [.int .i64 ((k : Nat) : Int)] (by kernel_rfl) ?_
              refine K.RW.q rfl rfl (K.QR.n64 ((((k : Nat) : Int) : Int) + (1 : Int)) ((k + 1 : Nat) : Int) (by kernel_rfl) (by omega)) ?_
              refine K.RW.qs [.int .i64 ((k + 1 : Nat) : Int)] (by kernel_rfl) ?_
              refine K.RW.nil ?_
              refine K.thn_normal ?_
              refine ⟨_, ?_, k + 1, ((((o3 ++ ([32] : List UInt8)) ++ (dg ((S.m.getD k p0).key).toNat)) ++ ([61] : List UInt8)) ++ (dg ((S.m.getD k p0).val).toNat)), rfl, ⟨by rfl, by rfl, by rfl, by rfl, by rfl, by rfl, trivial⟩, (by omega), (by rw [ho3, flR_next (d := p0) (by omega)]; simp [pR]), (by (simp only [List.length_append, List.length_cons, List.length_nil]; omega)), hS.pick [0, 1, 2, 3, 4]⟩
              omega
            ·  -- no
              refine K.RW.q rfl rfl (K.QR.nice (v := .bool (decide ((((k : Nat) : Int) : Int) < (((S.m.length : Nat) : Int) : Int)))) (by kernel_rfl) (congrArg Value.bool (decide_eq_false h_22))) ?_
              refine K.RW.nil ?_
              refine K.thn_normal ?_
              refine K.KW.ifF rfl ?_
              refine K.KW.exit ?_
              refine K.thn_exit ?_
              refine K.thn_exit ?_
              refine K.blk_hit ?_
              refine K.thn_normal ?_
              refine K.KW.seq ?_
              -- 16 :132
              have e3 : S.m.take k = S.m := List.take_of_length_le (by omega)
              rw [e3] at ho3
              refine K.KW.region ?_
              refine K.RW.qs [.string (K.sb o3)] (by kernel_rfl) ?_
              refine K.RW.q rfl rfl (K.QR.sAdd (xs := o3) (ys := [10]) rfl rfl rfl (by (try simp only [List.length_append, List.length_cons, List.length_nil] at *); omega)) ?_
              refine K.RW.qs [.string (K.sb (o3 ++ ([10] : List UInt8)))] (by kernel_rfl) ?_
              refine K.RW.nil ?_
              refine K.thn_normal ?_
              refine K.KW.ret ?_
              refine ⟨.inr rfl, rfl, (.string (K.sb (o3 ++ ([10] : List UInt8)))), K.res1 rfl rfl, [g1, g2, g3], ?_, hS.pick [1, 2, 3, 4]⟩
              refine ⟨rfl, ?_⟩
              have e : stR S = rowR qN vR S.q ++ (rowR sN vR S.s ++ rowR mN pR S.m) := by unfold stR; rw [List.append_assoc]; rfl
              rw [e, rowR_fl (nm := mN), ho3]; simp
end Go.Proofs.YtnehocjmgnhhhaaDoor
