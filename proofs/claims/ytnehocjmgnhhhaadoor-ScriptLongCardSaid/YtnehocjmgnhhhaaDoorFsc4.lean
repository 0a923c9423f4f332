import Derived.Test.YtnehocjmgnhhhaaDoorFsc3
import Derived.Test.YtnehocjmgnhhhaaDoorKf
/- Scripts: rows. -/
namespace Go.Proofs.YtnehocjmgnhhhaaDoor
open Go.RowKit
set_option linter.unusedVariables false
attribute [local irreducible] K.KW K.RW K.DW K.OW K.QR K.KC
theorem cut_less {c : UInt8} {L : List UInt8} (h : ¬ L = []) : (K.cutS c L).2.1.length < L.length := by
  have : 0 < L.length := List.length_pos_iff.2 h
  unfold K.cutS
  split
  · show (L.drop _).length < _
    rw [List.length_drop]; omega
  · exact this
theorem cut_row {c : UInt8} (L : List UInt8) : (K.cutS c L).1.length ≤ L.length := by
  unfold K.cutS
  split
  · show (L.take _).length ≤ _
    rw [List.length_take]; omega
  · exact Nat.le_refl _
abbrev rowNx (L : List UInt8) : List UInt8 := (K.cutS 10 L).2.1
def skipR (L : List UInt8) : Prop := (K.cutS 10 L).1 = [] ∨ (K.cutS 10 L).1.getD 0 0 = 35
instance (L : List UInt8) : Decidable (skipR L) := inferInstanceAs (Decidable (_ ∨ _))
abbrev rowAct (L : List UInt8) : ActM × Int × Int := actW (K.spl 32 (K.cutS 10 L).1)
/-- the acts of a text, from a row on -/
def readG : Nat → List UInt8 → Nat → List ActM → List ActM × Int × Int
  | 0, _, _, O => (O, 0, 0)
  | f + 1, L, k, O => if L = [] then (O, 0, 0) else if skipR L then readG f (rowNx L) (k + 1) O
    else if ¬ (rowAct L).2.2 = 0 then ([], ((k + 1 : Nat) : Int), (rowAct L).2.2)
    else if 20000 < (O.length : Int) + (rowAct L).2.1 then ([], ((k + 1 : Nat) : Int), 2)
    else readG f (rowNx L) (k + 1) (O ++ List.replicate (rowAct L).2.1.toNat (rowAct L).1)
def readM (l : List UInt8) : List ActM × Int × Int := if 65536 < l.length then ([], 0, 2) else readG (l.length + 1) l 0 []
theorem readG_fuel : ∀ (f g : Nat) (L : List UInt8) (k : Nat) (O : List ActM), L.length < f → L.length < g → readG f L k O = readG g L k O
  | 0, _, _, _, _, h, _ => by omega
  | _, 0, _, _, _, _, h => by omega
  | f + 1, g + 1, L, k, O, hf, hg => by
    unfold readG
    by_cases hL : L = []
    · rw [if_pos hL, if_pos hL]
    · have := cut_less (c := 10) hL
      rw [if_neg hL, if_neg hL, readG_fuel f g (rowNx L) _ _ (by unfold rowNx; omega) (by unfold rowNx; omega), readG_fuel f g (rowNx L) _ _ (by unfold rowNx; omega) (by unfold rowNx; omega)]
theorem readG_skip {L : List UInt8} {k : Nat} {O : List ActM} {X : List ActM × Int × Int} (hR : readG (L.length + 1) L k O = X) (hL : ¬ L = []) (h : skipR L) : readG ((rowNx L).length + 1) (rowNx L) (k + 1) O = X := by
  have := cut_less (c := 10) hL
  rw [← hR]; conv => rhs; unfold readG
  rw [if_neg hL, if_pos h]; exact readG_fuel _ _ _ _ _ (by omega) (by unfold rowNx; omega)
theorem readG_ok {L : List UInt8} {k : Nat} {O : List ActM} {X : List ActM × Int × Int} (hR : readG (L.length + 1) L k O = X) (hL : ¬ L = []) (h : ¬ skipR L) (h1 : (rowAct L).2.2 = 0) (h2 : ¬ 20000 < (O.length : Int) + (rowAct L).2.1) : readG ((rowNx L).length + 1) (rowNx L) (k + 1) (O ++ List.replicate (rowAct L).2.1.toNat (rowAct L).1) = X := by
  have := cut_less (c := 10) hL
  rw [← hR]; conv => rhs; unfold readG
  rw [if_neg hL, if_neg h, if_neg (by simpa using h1), if_neg h2]; exact readG_fuel _ _ _ _ _ (by omega) (by unfold rowNx; omega)
theorem readG_err {L : List UInt8} {k : Nat} {O : List ActM} {X : List ActM × Int × Int} (hR : readG (L.length + 1) L k O = X) (hL : ¬ L = []) (h : ¬ skipR L) (h1 : ¬ (rowAct L).2.2 = 0) : X = ([], ((k + 1 : Nat) : Int), (rowAct L).2.2) := by
  rw [← hR]; unfold readG
  rw [if_neg hL, if_neg h, if_pos h1]
theorem readG_big {L : List UInt8} {k : Nat} {O : List ActM} {X : List ActM × Int × Int} (hR : readG (L.length + 1) L k O = X) (hL : ¬ L = []) (h : ¬ skipR L) (h1 : (rowAct L).2.2 = 0) (h2 : 20000 < (O.length : Int) + (rowAct L).2.1) : X = ([], ((k + 1 : Nat) : Int), 2) := by
  rw [← hR]; unfold readG
  rw [if_neg hL, if_neg h, if_neg (by simpa using h1), if_pos h2]
theorem numW_in {l : List UInt8} {a b : Int} (h : (numW l a b).2 = 0) : a ≤ (numW l a b).1 ∧ (numW l a b).1 ≤ b := by
  unfold numW at h ⊢
  split at h
  · simp at h
  · split at h
    · simp at h
    · rename_i h1 h2
      rw [if_neg h1, if_neg h2]; simp only; omega
theorem numsE1 {W : List (List UInt8)} {B : List (Int × Int)} (h : numsE W B = 0) : ∀ q, q < W.length → numE1 W B q = 0 := by
  intro q hq
  unfold numsE at h
  split at h
  · have key : ∀ (f j : Nat), numsG W B f j = 0 → ∀ q, j ≤ q → q < j + f → numE1 W B q = 0 := by
      intro f
      induction f with
      | zero => intro j _ q h1 h2; omega
      | succ f ih =>
        intro j hj q h1 h2
        unfold numsG at hj
        split at hj
        · rename_i h0
          by_cases e : q = j
          · rw [e]; exact h0
          · exact ih (j + 1) hj q (by omega) (by omega)
        · rename_i h0; exact absurd hj h0
    exact key _ 0 h q (by omega) (by omega)
  · simp at h
theorem numsV_get {W : List (List UInt8)} {B : List (Int × Int)} {q : Nat} (h : q < W.length) : (numsV W B).getD q 0 = numV1 W B q := by
  unfold numsV
  rw [List.getD_eq_getElem?_getD, List.getElem?_map, List.getElem?_range h]; rfl
theorem numsV_in {W : List (List UInt8)} {B : List (Int × Int)} {q : Nat} (h : numsE W B = 0) (hq : q < W.length) : (B.getD q (0, 0)).1 ≤ (numsV W B).getD q 0 ∧ (numsV W B).getD q 0 ≤ (B.getD q (0, 0)).2 := by
  rw [numsV_get hq]; exact numW_in (numsE1 h q hq)
theorem actW_times {W : List (List UInt8)} (h : (actW W).2.2 = 0) : 1 ≤ (actW W).2.1 ∧ (actW W).2.1 ≤ 10000 := by
  unfold actW at h ⊢
  split
  · exact ⟨by show (1 : Int) ≤ 1; decide, by show (1 : Int) ≤ 10000; decide⟩
  · rename_i h0; rw [if_neg h0] at h
    split
    · rename_i h1; rw [if_pos h1] at h
      split
      · rename_i h2; exact numsV_in h2 (by rw [numsE_lens h2]; decide)
      · rename_i h2; rw [if_neg h2] at h; exact absurd h h2
    · rename_i h1; rw [if_neg h1] at h
      split
      · rename_i h1; rw [if_pos h1] at h
        split
        · exact ⟨by show (1 : Int) ≤ 1; decide, by show (1 : Int) ≤ 10000; decide⟩
        · rename_i h2; rw [if_neg h2] at h; exact absurd h h2
      · rename_i h1; rw [if_neg h1] at h
        split
        · rename_i h1; rw [if_pos h1] at h
          split
          · rename_i h2; exact numsV_in h2 (by rw [numsE_lens h2]; decide)
          · rename_i h2; rw [if_neg h2] at h; exact absurd h h2
        · rename_i h1; rw [if_neg h1] at h
          split
          · decide
          · rename_i h2; rw [if_neg h2] at h; exact absurd h (by decide)
set_option maxHeartbeats 1000000 in
set_option maxRecDepth 100000 in
theorem srows_ok (w0 : World) (l : List UInt8) :
    K.GC Tryd.prog w0 71 #[.string (K.sb l)] [] (fun v post => ∃ b g, v = .func (.func 88) [].toArray [.pointer (some ⟨b, 0, none⟩)].toArray ∧ post = [g] ∧ g = [K.pt b 9 [.string (K.sb l)]]) := by
  refine K.GC.mk (n := 4) Tryd.func71 rfl rfl [.string (K.sb l)] rfl rfl ?_
  intro fr w hS
  replace hS : K.Sat w0 [fr] w := hS
  refine K.KW.seq ?_
  -- 0 :31
  refine K.KW.region ?_
  refine K.RW.l rfl (K.OW.gnew 9 [.string (K.sb l)] hS ?_)
  clear hS; intro w r_1 g_2 hg_3 hS
  refine K.RW.qs [.nilFunc] (by kernel_rfl) ?_
  refine K.RW.nil ?_
  refine K.thn_normal ?_
  refine K.KW.seq ?_
  -- 1 :32
  refine K.KW.region ?_
  refine K.RW.q rfl rfl (K.QR.fn [] [.pointer (some ⟨r_1, 0, none⟩)] rfl rfl rfl) ?_
  refine K.RW.qs [.func (.func 88) [].toArray [.pointer (some ⟨r_1, 0, none⟩)].toArray] (by kernel_rfl) ?_
  refine K.RW.nil ?_
  refine K.thn_normal ?_
  refine K.KW.ret ?_
  refine ⟨.inr rfl, rfl, (.func (.func 88) [].toArray [.pointer (some ⟨r_1, 0, none⟩)].toArray), K.res1 rfl rfl, [g_2], ?_, hS.pick [0, 1]⟩
  exact ⟨_, _, rfl, rfl, hg_3⟩
set_option maxHeartbeats 1000000 in
set_option maxRecDepth 100000 in
theorem srows1_ok (w0 : World) (l b : Nat) (gt : K.Cs) (T : List UInt8) (hT : T.length ≤ 1000000) (hgt : gt = [K.pt b 9 [.string (K.sb T)]]) (J : Nat → List UInt8 → K.Cs → Prop) (E : K.Cs → Prop) (hY : ∀ k L m, L ≠ [] → J k L m → K.YGb Tryd.prog w0 l [.int .i64 ((k + 1 : Nat) : Int), .string (K.sb (K.cutS 10 L).1)] m (fun b m' => (b = true ∧ J (k + 1) (rowNx L) m') ∨ (b = false ∧ E m'))) (m : K.Cs) (hJ : J 0 T m) :
    K.GC Tryd.prog w0 88 #[.func (.yield l) #[] #[], .pointer (some ⟨b, 0, none⟩)] [gt, m] (fun _ post => ∃ g m', post = [g, m'] ∧ ((∃ k, J k [] m') ∨ E m')) := by
  refine K.GC.mk (n := 23) Tryd.func88 rfl rfl [.func (.yield l) #[] #[], .pointer (some ⟨b, 0, none⟩)] rfl rfl ?_
  intro fr w hS
  replace hS : K.Sat w0 [gt, m, fr] w := hS
  refine K.KW.seq ?_
  -- 0 :33
  refine K.KW.region ?_
  refine K.RW.qs [.int .i64 1] (by kernel_rfl) ?_
  refine K.RW.nil ?_
  refine K.thn_normal ?_
  refine K.KW.block ?_
  refine K.KW.loop (fun m_ F_ w_ => ∃ (k : Nat) (Lt : List UInt8) (g1 : K.Cs) (m1 : K.Cs), m_ = Lt.length ∧ K.Sl F_ [(0, .func (.yield l) #[] #[]), (1, .pointer (some ⟨b, 0, none⟩)), (3, .int .i64 ((k + 1 : Nat) : Int)), (23, undef)] ∧ k + Lt.length ≤ T.length ∧ g1 = [K.pt b 9 [.string (K.sb Lt)]] ∧ J k Lt m1 ∧ K.Sat w0 [g1, m1, fr] w_) ((fun (k : Nat) (Lt : List UInt8) => Lt.length) 0 T) ?_ ?_
  · -- begins
    exact ⟨0, T, gt, m, rfl, ⟨by rfl, by rfl, by rfl, by rfl, trivial⟩, (by omega), hgt, hJ, hS.pick [0, 1, 2]⟩
  · -- a round
    clear hS
    intro m_1 F_2 w hI
    obtain ⟨k, Lt, g1, m1, rfl, sl_3, p_4, x_5, x_6, hS⟩ := hI
    rw [← K.Sl.puts sl_3]; clear sl_3
    refine K.KW.seq ?_
    refine K.KW.seq ?_
    -- 1 :33
    refine K.KW.region ?_
    refine K.RW.q rfl rfl (K.QR.ld1 (v := .string (K.sb Lt)) rfl rfl (by kernel_rfl) ((hS.blk 0 rfl x_5).cell rfl)) ?_
    by_cases h_7 : Lt = ([] : List UInt8)
    ·  -- yes
      refine K.RW.q rfl rfl (K.QR.sNe (xs := Lt) (ys := []) false rfl rfl rfl (K.ndeq_t h_7)) ?_
      refine K.RW.nil ?_
      refine K.thn_normal ?_
      refine K.KW.ifF rfl ?_
      refine K.KW.exit ?_
      refine K.thn_exit ?_
      refine K.thn_exit ?_
      refine K.blk_hit ?_
      refine ⟨.inl rfl, rfl, (.tuple #[]), K.res0 rfl, [g1, m1], ?_, hS.pick [0, 1, 2]⟩
      exact ⟨_, _, rfl, .inl ⟨k, by rw [← h_7]; exact x_6⟩⟩
    ·  -- no
      refine K.RW.q rfl rfl (K.QR.sNe (xs := Lt) (ys := []) true rfl rfl rfl (K.ndeq_f h_7)) ?_
      refine K.RW.nil ?_
      refine K.thn_normal ?_
      refine K.KW.ifT rfl ?_
      refine K.KW.skip ?_
      refine K.thn_normal ?_
      refine K.KW.seq ?_
      refine K.KW.block ?_
      refine K.KW.seq ?_
      -- 3 :34
      have hcl : (rowNx Lt).length < Lt.length := cut_less (c := 10) h_7
      refine K.KW.region ?_
      refine K.RW.q rfl rfl (K.QR.ld1 (v := .string (K.sb Lt)) rfl rfl (by kernel_rfl) ((hS.blk 0 rfl x_5).cell rfl)) ?_
      refine K.RW.l rfl (K.OW.gcall hS [] [0, 1, 2] [.string (K.sb Lt), .string (K.sb [10])] (cut_ok _ Lt 10 (by omega)) ?_)
      clear hS; rintro _ _ w ⟨rfl, rfl⟩ hS
      replace hS : K.Sat w0 [g1, m1, fr] w := hS
      refine K.RW.qs [.tuple #[.string (K.sb ((K.cutS 10 Lt).1)), .string (K.sb ((K.cutS 10 Lt).2.1)), .bool ((K.cutS 10 Lt).2.2)], .string (K.sb ((K.cutS 10 Lt).1)), .string (K.sb ((K.cutS 10 Lt).2.1)), .bool ((K.cutS 10 Lt).2.2), .string (K.sb ((K.cutS 10 Lt).1)), .string (K.sb ((K.cutS 10 Lt).2.1)), .bool ((K.cutS 10 Lt).2.2)] (by kernel_rfl) ?_
      refine K.RW.nil ?_
      refine K.thn_normal ?_
      refine K.KW.seq ?_
      refine K.KW.seq ?_
      -- 4 :35
      refine K.KW.regionY ?_
      refine K.RY.q rfl rfl (K.QR.k (v := .func (.yield l) #[] #[]) (by kernel_rfl)) ?_
      refine K.RY.q rfl rfl (K.QR.k (v := .int .i64 ((k + 1 : Nat) : Int)) (by kernel_rfl)) ?_
      refine K.RY.q rfl rfl (K.QR.k (v := .string (K.sb ((K.cutS 10 Lt).1))) (by kernel_rfl)) ?_
      refine K.RY.gyieldb hS 1 [0, 2] [.int .i64 ((k + 1 : Nat) : Int), .string (K.sb ((K.cutS 10 Lt).1))] (hY _ _ _ h_7 x_6) rfl rfl ?_
      clear hS; rintro _ w m_10 (⟨rfl, hJ_8⟩ | ⟨rfl, hE_9⟩) hS
      ·
        replace hS : K.Sat w0 [m_10, g1, fr] w := hS
        refine K.RY.q rfl rfl (K.QR.k (v := .bool false) (by kernel_rfl)) ?_
        refine K.RY.nil ?_
        refine K.thn_normal ?_
        refine K.KW.ifF rfl ?_
        refine K.KW.skip ?_
        refine K.thn_normal ?_
        -- 5 :38
        refine K.KW.region ?_
        refine K.RW.qs [.string (K.sb ((K.cutS 10 Lt).2.1))] (by kernel_rfl) ?_
        refine K.RW.l rfl (K.OW.gst 1 [.string (K.sb ((K.cutS 10 Lt).2.1))] [.string (K.sb ((K.cutS 10 Lt).2.1))] hS x_5 ?_)
        clear hS; intro w g_11 hg_12 hS
        replace hS : K.Sat w0 [m_10, g_11, fr] w := hS
        refine K.RW.nil ?_
        refine K.blk_normal ?_
        refine K.thn_normal ?_
        -- 2 :33
        refine K.KW.region ?_
        refine K.RW.qs [.int .i64 ((k + 1 : Nat) : Int)] (by kernel_rfl) ?_
        refine K.RW.q rfl rfl (K.QR.n64 ((((k + 1 : Nat) : Int) : Int) + (1 : Int)) ((k + 1 + 1 : Nat) : Int) (by kernel_rfl) (by omega)) ?_
        refine K.RW.qs [.int .i64 ((k + 1 + 1 : Nat) : Int)] (by kernel_rfl) ?_
        refine K.RW.nil ?_
        refine K.thn_normal ?_
        refine ⟨_, ?_, k + 1, (rowNx Lt), g_11, m_10, rfl, ⟨by rfl, by rfl, by rfl, by rfl, trivial⟩, (by omega), hg_12, hJ_8, hS.pick [1, 0, 2]⟩
        omega
      ·
        replace hS : K.Sat w0 [m_10, g1, fr] w := hS
        refine K.RY.q rfl rfl (K.QR.k (v := .bool true) (by kernel_rfl)) ?_
        refine K.RY.nil ?_
        refine K.thn_normal ?_
        refine K.KW.ifT rfl ?_
        refine K.KW.ret ?_
        refine K.thn_ret ?_
        refine K.blk_ret ?_
        refine K.thn_ret ?_
        refine K.thn_ret ?_
        refine K.blk_ret ?_
        refine ⟨.inr rfl, rfl, (.tuple #[]), K.res0 rfl, [g1, m_10], ?_, hS.pick [1, 0, 2]⟩
        exact ⟨_, _, rfl, .inr hE_9⟩
end Go.Proofs.YtnehocjmgnhhhaaDoor
