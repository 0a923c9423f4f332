import Derived.Test.YtnehocjmgnhhhaaDoorFrp3
/- Reports: the document's digits, numbers, names. -/
namespace Go.Proofs.YtnehocjmgnhhhaaDoor
open Go.RowKit
set_option linter.unusedVariables false
attribute [local irreducible] K.KW K.RW K.DW K.OW K.QR K.KC
set_option maxHeartbeats 1000000 in
set_option maxRecDepth 100000 in
theorem rdigits_ok (w0 : World) (n : Nat) (hn : n ≤ 9223372036854775807) :
    K.GC Tryd.prog w0 30 #[.int .i64 ((n : Nat) : Int)] [] (fun v post => post = [] ∧ v = .string (K.sb (dg n))) := by
  refine K.GC.mk (n := 23) Tryd.func30 rfl rfl [.int .i64 ((n : Nat) : Int)] rfl rfl ?_
  intro fr w hS
  replace hS : K.Sat w0 [fr] w := hS
  refine K.KW.seq ?_
  -- 0 :160
  refine K.KW.region ?_
  refine K.RW.qs [.string (K.sb [])] (by kernel_rfl) ?_
  refine K.RW.nil ?_
  refine K.thn_normal ?_
  refine K.KW.seq ?_
  -- 1 :161
  refine K.KW.region ?_
  refine K.RW.qs [.string (K.sb [])] (by kernel_rfl) ?_
  refine K.RW.nil ?_
  refine K.thn_normal ?_
  refine K.KW.seq ?_
  refine K.KW.block ?_
  refine K.KW.loop (fun m_ F_ w_ => ∃ (m : Nat) (z : List UInt8), m_ = 2 * m ∧ K.Sl F_ [(0, .int .i64 ((m : Nat) : Int)), (2, .string (K.sb [])), (3, .string (K.sb z)), (23, undef)] ∧ m ≤ n ∧ dg m ++ z = dg n ∧ K.Sat w0 [fr] w_) ((fun (m : Nat) (z : List UInt8) => 2 * m) n []) ?_ ?_
  · -- begins
    exact ⟨n, [], rfl, ⟨by rfl, by rfl, by rfl, by rfl, trivial⟩, (by omega), (by simp), hS.pick [0]⟩
  · -- a round
    clear hS
    intro m_1 F_2 w hI
    obtain ⟨m, z, rfl, sl_3, p_4, hz, hS⟩ := hI
    rw [← K.Sl.puts sl_3]; clear sl_3
    refine K.KW.seq ?_
    refine K.KW.seq ?_
    -- 2 :162
    refine K.KW.region ?_
    refine K.RW.qs [.int .i64 ((m : Nat) : Int)] (by kernel_rfl) ?_
    by_cases h_5 : (((m : Nat) : Int) : Int) ≥ (10 : Int)
    ·  -- yes
      refine K.RW.q rfl rfl (K.QR.nice (v := .bool (decide ((((m : Nat) : Int) : Int) ≥ (10 : Int)))) (by kernel_rfl) (congrArg Value.bool (decide_eq_true h_5))) ?_
      refine K.RW.nil ?_
      refine K.thn_normal ?_
      refine K.KW.ifT rfl ?_
      refine K.KW.skip ?_
      refine K.thn_normal ?_
      refine K.KW.block ?_
      refine K.KW.seq ?_
      -- 3 :163
      refine K.KW.region ?_
      refine K.RW.qs [.int .i64 ((m : Nat) : Int)] (by kernel_rfl) ?_
      refine K.RW.q rfl rfl (K.QR.remi64 (((m : Nat) : Int) : Int) 10 ((m % 10 : Nat) : Int) (by kernel_rfl) (by omega) (by omega)) ?_
      refine K.RW.q rfl rfl (K.QR.n64 ((48 : Int) + (((m % 10 : Nat) : Int) : Int)) ((48 + m % 10 : Nat) : Int) (by kernel_rfl) (by omega)) ?_
      refine K.RW.q rfl rfl (K.QR.nice (v := .int .u8 (IntKind.u8.wrap ((48 + m % 10 : Nat) : Int))) (by kernel_rfl) (congrArg (Value.int .u8) (IntWalk.u8_in _ (by omega)))) ?_
      refine K.RW.l rfl (K.OW.gbs [(0, .int .u8 ((48 + m % 10 : Nat) : Int))] [.int .u8 ((48 + m % 10 : Nat) : Int)] hS (fun w => K.bs_run (P := Tryd.prog) w 66 5 1 _ _ Tryd.underlying66 (by kernel_rfl)) ?_)
      clear hS; intro w r_6 g_7 hg_8 hS
      refine K.RW.q rfl rfl (K.QR.sOf (xs := [(((48 + m % 10 : Nat) : Int) : Int)]) (ys := [UInt8.ofNat (48 + m % 10)]) rfl rfl Tryd.underlying66 Tryd.underlying5 Tryd.underlying9 rfl (K.Blk.rowE (c := cU8) 0 (L := [(((48 + m % 10 : Nat) : Int) : Int)]) (hS.blk 0 rfl hg_8) (fun _ => rfl) rfl) (rfl)) ?_
      refine K.RW.qs [.string (K.sb z)] (by kernel_rfl) ?_
      refine K.RW.q rfl rfl (K.QR.sAdd (xs := [UInt8.ofNat (48 + m % 10)]) (ys := z) rfl rfl rfl (by have h1 := congrArg List.length hz; have h2 := dg_len20 hn; rw [List.length_append] at h1; (try simp only [List.length_append, List.length_cons, List.length_nil] at *); omega)) ?_
      refine K.RW.qs [.string (K.sb ([UInt8.ofNat (48 + m % 10)] ++ z))] (by kernel_rfl) ?_
      refine K.RW.nil ?_
      refine K.thn_normal ?_
      -- 4 :164
      refine K.KW.region ?_
      refine K.RW.qs [.int .i64 ((m : Nat) : Int)] (by kernel_rfl) ?_
      refine K.RW.q rfl rfl (K.QR.quoi64 (((m : Nat) : Int) : Int) 10 ((m / 10 : Nat) : Int) (by kernel_rfl) (by omega) (by omega)) ?_
      refine K.RW.qs [.int .i64 ((m / 10 : Nat) : Int)] (by kernel_rfl) ?_
      refine K.RW.nil ?_
      refine K.blk_normal ?_
      refine K.thn_normal ?_
      refine ⟨_, ?_, m / 10, ([UInt8.ofNat (48 + m % 10)] ++ z), rfl, ⟨by rfl, by rfl, by rfl, by rfl, trivial⟩, (by omega), (by rw [← hz, dg_ge (n := m) (by omega)]; simp), hS.pick [1]⟩
      omega
    ·  -- no
      refine K.RW.q rfl rfl (K.QR.nice (v := .bool (decide ((((m : Nat) : Int) : Int) ≥ (10 : Int)))) (by kernel_rfl) (congrArg Value.bool (decide_eq_false h_5))) ?_
      refine K.RW.nil ?_
      refine K.thn_normal ?_
      refine K.KW.ifF rfl ?_
      refine K.KW.exit ?_
      refine K.thn_exit ?_
      refine K.thn_exit ?_
      refine K.blk_hit ?_
      refine K.thn_normal ?_
      refine K.KW.seq ?_
      -- 5 :166
      refine K.KW.region ?_
      refine K.RW.qs [.int .i64 ((m : Nat) : Int)] (by kernel_rfl) ?_
      refine K.RW.q rfl rfl (K.QR.n64 ((48 : Int) + (((m : Nat) : Int) : Int)) ((48 + m : Nat) : Int) (by kernel_rfl) (by omega)) ?_
      refine K.RW.q rfl rfl (K.QR.nice (v := .int .u8 (IntKind.u8.wrap ((48 + m : Nat) : Int))) (by kernel_rfl) (congrArg (Value.int .u8) (IntWalk.u8_in _ (by omega)))) ?_
      refine K.RW.l rfl (K.OW.gbs [(0, .int .u8 ((48 + m : Nat) : Int))] [.int .u8 ((48 + m : Nat) : Int)] hS (fun w => K.bs_run (P := Tryd.prog) w 66 5 1 _ _ Tryd.underlying66 (by kernel_rfl)) ?_)
      clear hS; intro w r_9 g_10 hg_11 hS
      refine K.RW.q rfl rfl (K.QR.sOf (xs := [(((48 + m : Nat) : Int) : Int)]) (ys := [UInt8.ofNat (48 + m)]) rfl rfl Tryd.underlying66 Tryd.underlying5 Tryd.underlying9 rfl (K.Blk.rowE (c := cU8) 0 (L := [(((48 + m : Nat) : Int) : Int)]) (hS.blk 0 rfl hg_11) (fun _ => rfl) rfl) (rfl)) ?_
      refine K.RW.qs [.string (K.sb z)] (by kernel_rfl) ?_
      refine K.RW.q rfl rfl (K.QR.sAdd (xs := [UInt8.ofNat (48 + m)]) (ys := z) rfl rfl rfl (by have h1 := congrArg List.length hz; have h2 := dg_len20 hn; rw [List.length_append] at h1; (try simp only [List.length_append, List.length_cons, List.length_nil] at *); omega)) ?_
      refine K.RW.qs [.string (K.sb ([UInt8.ofNat (48 + m)] ++ z))] (by kernel_rfl) ?_
      refine K.RW.nil ?_
      refine K.thn_normal ?_
      refine K.KW.ret ?_
      refine ⟨.inr rfl, rfl, (.string (K.sb ([UInt8.ofNat (48 + m)] ++ z))), K.res1 rfl rfl, [], ?_, hS.pick [1]⟩
      exact ⟨rfl, by rw [← hz, dg_lt (n := m) (by omega)]⟩
theorem rdigitsI_ok (w0 : World) (n : Int) (h0 : 0 ≤ n) (h1 : n ≤ 9223372036854775807) : K.GC Tryd.prog w0 30 #[.int .i64 n] [] (fun v post => post = [] ∧ v = .string (K.sb (dg n.toNat))) := by
  obtain ⟨m, rfl⟩ : ∃ m : Nat, n = m := ⟨n.toNat, by omega⟩
  exact rdigits_ok w0 m (by omega)
theorem dgR_nat {n : Int} (h : 0 ≤ n) : dgR n = dg n.toNat := by unfold dgR; rw [if_neg (by omega)]
/-- how far a number was read, no further than to a great one -/
def NumS (l : List UInt8) (n i : Nat) : Prop := i ≤ l.length ∧ n = min (val (l.take i)) 99999999999 ∧ (∀ x ∈ l.take i, isD x)
theorem numS0 (l : List UInt8) : NumS l 0 0 := ⟨by omega, by simp [val], by simp⟩
theorem numS_next {l : List UInt8} {n i : Nat} {m : Nat} (h : NumS l n i) (hi : i < l.length) (h1 : ¬ (l.getD i 0).toNat < 48) (h2 : ¬ 57 < (l.getD i 0).toNat) (hm : m = min (10 * n + ((l.getD i 0).toNat - 48)) 99999999999) : NumS l m (i + 1) := by
  obtain ⟨_, h4, h5⟩ := h
  refine ⟨hi, ?_, ?_⟩
  · rw [K.take_at hi, val_snoc, hm, h4]; omega
  · rw [K.take_at hi]
    intro x hx
    rcases List.mem_append.1 hx with hx | hx
    · exact h5 x hx
    · rw [List.mem_singleton.1 hx]; unfold isD; omega
theorem numS_end {l : List UInt8} {n i : Nat} (h : NumS l n i) (hi : l.length ≤ i) : n = min (val l) 99999999999 ∧ ∀ x ∈ l, isD x := by
  obtain ⟨_, h4, h5⟩ := h
  rw [List.take_of_length_le hi] at h4 h5
  exact ⟨h4, h5⟩
/-- what the document makes of a word as a number -/
def numN (l : List UInt8) (least most : Int) : Int × Int :=
  if l = [] ∨ lead l ∨ ¬ (∀ x ∈ l, isD x) then (0, 3) else if ((min (val l) 99999999999 : Nat) : Int) < least ∨ most < ((min (val l) 99999999999 : Nat) : Int) then (0, 5) else (((min (val l) 99999999999 : Nat) : Int), 0)
theorem numN_form {l : List UInt8} {a b : Int} (h : l = [] ∨ lead l ∨ ¬ (∀ x ∈ l, isD x)) : numN l a b = (0, 3) := by unfold numN; rw [if_pos h]
theorem numN_range {l : List UInt8} {a b : Int} {m : Nat} (h : ¬ (l = [] ∨ lead l ∨ ¬ (∀ x ∈ l, isD x))) (hm : m = min (val l) 99999999999) (h2 : (m : Int) < a ∨ b < (m : Int)) : numN l a b = (0, 5) := by subst hm; unfold numN; rw [if_neg h, if_pos h2]
theorem numN_ok {l : List UInt8} {a b : Int} {m : Nat} (h : ¬ (l = [] ∨ lead l ∨ ¬ (∀ x ∈ l, isD x))) (hm : m = min (val l) 99999999999) (h2 : ¬ ((m : Int) < a ∨ b < (m : Int))) : numN l a b = ((m : Int), 0) := by subst hm; unfold numN; rw [if_neg h, if_neg h2]
theorem val_big (l : List UInt8) : (∀ x ∈ l, isD x) → l ≠ [] → l.getD 0 0 ≠ 48 → 10 ^ (l.length - 1) ≤ val l := by
  refine snoc_ind (p := fun l => (∀ x ∈ l, isD x) → l ≠ [] → l.getD 0 0 ≠ 48 → 10 ^ (l.length - 1) ≤ val l) ?_ ?_ l
  · intro _ h; exact absurd rfl h
  · intro l x ih h hne h0
    by_cases hl : l = []
    · subst hl
      exact val_pos ([] ++ [x]) h hne h0
    · have := ih (fun y hy => h y (by simp [hy])) hl (by rw [← getD0_app hl]; exact h0)
      have hlen : 0 < l.length := List.length_pos_iff.2 hl
      rw [val_snoc, List.length_append, List.length_singleton, Nat.add_sub_cancel, show l.length = (l.length - 1) + 1 by omega, Nat.pow_succ]
      omega
theorem numN_R {l : List UInt8} {most : Int} (hm : most ≤ 4294967295) : (if (numN l 0 most).2 = 0 then (numN l 0 most).1 else -1) = numR l most := by
  by_cases h : l = [] ∨ lead l ∨ ¬ (∀ x ∈ l, isD x)
  · rw [numN_form h, if_neg (by simp), numR_bad (by rcases h with h | h | h; exact .inl h; exact .inr (.inr (.inl h)); exact .inr (.inr (.inr (.inl h))))]
  · by_cases h2 : most < (val l : Int)
    · rw [numN_range h rfl (.inr (by omega)), if_neg (by simp), numR_bad (.inr (.inr (.inr (.inr h2))))]
    · have hb : val l ≤ 99999999999 := by omega
      rw [numN_ok h (m := val l) (by omega) (by omega), if_pos rfl]
      have h13 : ¬ 13 < l.length := fun h13 => by
        have hd : ∀ x ∈ l, isD x := Classical.byContradiction fun hh => h (.inr (.inr hh))
        have h48 : l.getD 0 0 ≠ 48 := fun e => h (.inr (.inl ⟨by omega, e⟩))
        have hv := val_big l hd (fun e => h (.inl e)) h48
        have : 10 ^ 13 ≤ 10 ^ (l.length - 1) := Nat.pow_le_pow_right (by omega) (by omega)
        omega
      exact (numR_good (fun hh => by
        rcases hh with hh | hh | hh | hh | hh
        · exact h (.inl hh)
        · exact h13 hh
        · exact h (.inr (.inl hh))
        · exact h (.inr (.inr hh))
        · exact h2 hh)).symm
theorem nil_len {l : List UInt8} (h : (l.length : Int) = 0) : l = [] := List.eq_nil_of_length_eq_zero (by omega)
theorem nil_nlen {l : List UInt8} (h : ¬ (l.length : Int) = 0) : ¬ l = [] := fun e => h (by rw [e]; rfl)
set_option maxHeartbeats 1000000 in
set_option maxRecDepth 100000 in
theorem rnumber_ok (w0 : World) (l : List UInt8) (least most : Int) (hl : l.length ≤ 1000000) :
    K.GC Tryd.prog w0 75 #[.string (K.sb l), .int .i64 least, .int .i64 most] [] (fun v post => post = [] ∧ v = .tuple #[.int .i64 (numN l least most).1, .int .i64 (numN l least most).2]) := by
  refine K.GC.mk (n := 57) Tryd.func75 rfl rfl [.string (K.sb l), .int .i64 least, .int .i64 most] rfl rfl ?_
  intro fr w hS
  replace hS : K.Sat w0 [fr] w := hS
  refine K.KW.seq ?_
  -- 0 :27
  refine K.KW.region ?_
  refine K.RW.qs [.int .i64 0, .int .i64 0] (by kernel_rfl) ?_
  refine K.RW.nil ?_
  refine K.thn_normal ?_
  refine K.KW.seq ?_
  refine K.KW.seq ?_
  -- 1 :28
  refine K.KW.region ?_
  refine K.RW.qs [.string (K.sb l)] (by kernel_rfl) ?_
  refine K.RW.q rfl rfl (K.QR.sLen (xs := l) rfl rfl Tryd.underlying9) ?_
  by_cases h_1 : (((l.length : Nat) : Int) : Int) = (0 : Int)
  ·  -- yes
    refine K.RW.q rfl rfl (K.QR.nice (v := .bool ((((l.length : Nat) : Int) : Int) == (0 : Int))) (by kernel_rfl) (congrArg Value.bool (beq_iff_eq.2 h_1))) ?_
    refine K.RW.qs [.bool true] (by kernel_rfl) ?_
    refine K.RW.skip rfl (by kernel_rfl) ?_
    refine K.RW.skip rfl (by kernel_rfl) ?_
    refine K.RW.skip rfl (by kernel_rfl) ?_
    refine K.RW.skip rfl (by kernel_rfl) ?_
    refine K.RW.skip rfl (by kernel_rfl) ?_
    refine K.RW.skip rfl (by kernel_rfl) ?_
    refine K.RW.skip rfl (by kernel_rfl) ?_
    refine K.RW.skip rfl (by kernel_rfl) ?_
    refine K.RW.qs [.bool true] (by kernel_rfl) ?_
    refine K.RW.nil ?_
    refine K.thn_normal ?_
    refine K.KW.ifT rfl ?_
    refine K.KW.seq ?_
    -- 2 :29
    refine K.KW.region ?_
    refine K.RW.qs [.int .i64 0, .int .i64 3] (by kernel_rfl) ?_
    refine K.RW.nil ?_
    refine K.thn_normal ?_
    refine K.KW.ret ?_
    refine K.thn_ret ?_
    refine ⟨.inr rfl, rfl, (.tuple #[.int .i64 0, .int .i64 3]), K.res2 rfl rfl rfl, [], ?_, hS.pick [0]⟩
    refine ⟨rfl, ?_⟩
    rw [numN_form]
    first | exact .inl (nil_len (by assumption)) | exact .inr (.inl (numR_lead (by omega) (by omega))) | exact .inr (.inr (notD (i := i) (by omega) (by omega)))
  ·  -- no
    refine K.RW.q rfl rfl (K.QR.nice (v := .bool ((((l.length : Nat) : Int) : Int) == (0 : Int))) (by kernel_rfl) (congrArg Value.bool (beq_eq_false_iff_ne.2 h_1))) ?_
    refine K.RW.qs [.bool false, .string (K.sb l)] (by kernel_rfl) ?_
    refine K.RW.q rfl (by kernel_rfl) (K.QR.sLen (xs := l) rfl rfl Tryd.underlying9) ?_
    by_cases h_2 : (((l.length : Nat) : Int) : Int) > (1 : Int)
    ·  -- yes
      refine K.RW.q rfl (by kernel_rfl) (K.QR.nice (v := .bool (decide ((((l.length : Nat) : Int) : Int) > (1 : Int)))) (by kernel_rfl) (congrArg Value.bool (decide_eq_true h_2))) ?_
      refine K.RW.qs [.bool true, .string (K.sb l)] (by kernel_rfl) ?_
      refine K.RW.q rfl (by kernel_rfl) (K.QR.sIx (xs := l) (i := 0) rfl rfl rfl Tryd.underlying9 (by omega)) ?_
      by_cases h_3 : ((((l.getD 0 0).toNat : Nat) : Int) : Int) = (48 : Int)
      ·  -- yes
        refine K.RW.q rfl (by kernel_rfl) (K.QR.nice (v := .bool (((((l.getD 0 0).toNat : Nat) : Int) : Int) == (48 : Int))) (by kernel_rfl) (congrArg Value.bool (beq_iff_eq.2 h_3))) ?_
        refine K.RW.qs [.bool true, .bool true] (by kernel_rfl) ?_
        refine K.RW.nil ?_
        refine K.thn_normal ?_
        refine K.KW.ifT rfl ?_
        refine K.KW.seq ?_
        -- 2 :29
        refine K.KW.region ?_
        refine K.RW.qs [.int .i64 0, .int .i64 3] (by kernel_rfl) ?_
        refine K.RW.nil ?_
        refine K.thn_normal ?_
        refine K.KW.ret ?_
        refine K.thn_ret ?_
        refine ⟨.inr rfl, rfl, (.tuple #[.int .i64 0, .int .i64 3]), K.res2 rfl rfl rfl, [], ?_, hS.pick [0]⟩
        refine ⟨rfl, ?_⟩
        rw [numN_form]
        first | exact .inl (nil_len (by assumption)) | exact .inr (.inl (numR_lead (by omega) (by omega))) | exact .inr (.inr (notD (i := i) (by omega) (by omega)))
      ·  -- no
        refine K.RW.q rfl (by kernel_rfl) (K.QR.nice (v := .bool (((((l.getD 0 0).toNat : Nat) : Int) : Int) == (48 : Int))) (by kernel_rfl) (congrArg Value.bool (beq_eq_false_iff_ne.2 h_3))) ?_
        refine K.RW.qs [.bool false, .bool false] (by kernel_rfl) ?_
        refine K.RW.nil ?_
        refine K.thn_normal ?_
        refine K.KW.ifF rfl ?_
        refine K.KW.skip ?_
        refine K.thn_normal ?_
        refine K.KW.seq ?_
        -- 3 :31
        refine K.KW.region ?_
        refine K.RW.qs [.int .i64 0] (by kernel_rfl) ?_
        refine K.RW.nil ?_
        refine K.thn_normal ?_
        refine K.KW.seq ?_
        refine K.KW.seq ?_
        -- 4 :32
        refine K.KW.region ?_
        refine K.RW.qs [.int .i64 0] (by kernel_rfl) ?_
        refine K.RW.nil ?_
        refine K.thn_normal ?_
        refine K.KW.block ?_
        refine K.KW.loop (fun m_ F_ w_ => ∃ (i : Nat) (n : Nat), m_ = l.length - i ∧ K.Sl F_ [(0, .string (K.sb l)), (1, .int .i64 least), (2, .int .i64 most), (8, .int .i64 ((n : Nat) : Int)), (9, .int .i64 ((i : Nat) : Int)), (57, undef)] ∧ i ≤ l.length ∧ NumS l n i ∧ K.Sat w0 [fr] w_) ((fun (i : Nat) (n : Nat) => l.length - i) 0 0) ?_ ?_
        · -- begins
          exact ⟨0, 0, rfl, ⟨by rfl, by rfl, by rfl, by rfl, by rfl, by rfl, trivial⟩, (by omega), (numS0 l), hS.pick [0]⟩
        · -- a round
          clear hS
          intro m_4 F_5 w hI
          obtain ⟨i, n, rfl, sl_6, p_7, hinv, hS⟩ := hI
          rw [← K.Sl.puts sl_6]; clear sl_6
          refine K.KW.seq ?_
          refine K.KW.seq ?_
          -- 5 :32
          refine K.KW.region ?_
          refine K.RW.qs [.int .i64 ((i : Nat) : Int), .string (K.sb l)] (by kernel_rfl) ?_
          refine K.RW.q rfl rfl (K.QR.sLen (xs := l) rfl rfl Tryd.underlying9) ?_
          by_cases h_8 : (((i : Nat) : Int) : Int) < (((l.length : Nat) : Int) : Int)
          ·  -- yes
            refine K.RW.q rfl rfl (K.QR.nice (v := .bool (decide ((((i : Nat) : Int) : Int) < (((l.length : Nat) : Int) : Int)))) (by kernel_rfl) (congrArg Value.bool (decide_eq_true h_8))) ?_
            refine K.RW.nil ?_
            refine K.thn_normal ?_
            refine K.KW.ifT rfl ?_
            refine K.KW.skip ?_
            refine K.thn_normal ?_
            refine K.KW.seq ?_
            refine K.KW.block ?_
            refine K.KW.seq ?_
            refine K.KW.seq ?_
            -- 7 :33
            refine K.KW.region ?_
            refine K.RW.qs [.string (K.sb l), .int .i64 ((i : Nat) : Int)] (by kernel_rfl) ?_
            refine K.RW.q rfl rfl (K.QR.sIx (xs := l) (i := i) rfl rfl rfl Tryd.underlying9 (by omega)) ?_
            by_cases h_9 : ((((l.getD i 0).toNat : Nat) : Int) : Int) < (48 : Int)
            ·  -- yes
              refine K.RW.q rfl rfl (K.QR.nice (v := .bool (decide (((((l.getD i 0).toNat : Nat) : Int) : Int) < (48 : Int)))) (by kernel_rfl) (congrArg Value.bool (decide_eq_true h_9))) ?_
              refine K.RW.qs [.bool true] (by kernel_rfl) ?_
              refine K.RW.skip rfl (by kernel_rfl) ?_
              refine K.RW.skip rfl (by kernel_rfl) ?_
              refine K.RW.skip rfl (by kernel_rfl) ?_
              refine K.RW.skip rfl (by kernel_rfl) ?_
              refine K.RW.qs [.bool true] (by kernel_rfl) ?_
              refine K.RW.nil ?_
              refine K.thn_normal ?_
              refine K.KW.ifT rfl ?_
              refine K.KW.seq ?_
              -- 8 :34
              refine K.KW.region ?_
              refine K.RW.qs [.int .i64 0, .int .i64 3] (by kernel_rfl) ?_
              refine K.RW.nil ?_
              refine K.thn_normal ?_
              refine K.KW.ret ?_
              refine K.thn_ret ?_
              refine K.blk_ret ?_
              refine K.thn_ret ?_
              refine K.thn_ret ?_
              refine K.blk_ret ?_
              refine K.thn_ret ?_
              refine ⟨.inr rfl, rfl, (.tuple #[.int .i64 0, .int .i64 3]), K.res2 rfl rfl rfl, [], ?_, hS.pick [0]⟩
              refine ⟨rfl, ?_⟩
              rw [numN_form]
              first | exact .inl (nil_len (by assumption)) | exact .inr (.inl (numR_lead (by omega) (by omega))) | exact .inr (.inr (notD (i := i) (by omega) (by omega)))
            ·  -- no
              refine K.RW.q rfl rfl (K.QR.nice (v := .bool (decide (((((l.getD i 0).toNat : Nat) : Int) : Int) < (48 : Int)))) (by kernel_rfl) (congrArg Value.bool (decide_eq_false h_9))) ?_
              refine K.RW.qs [.bool false, .string (K.sb l), .int .i64 ((i : Nat) : Int)] (by kernel_rfl) ?_
              refine K.RW.q rfl (by kernel_rfl) (K.QR.sIx (xs := l) (i := i) rfl rfl rfl Tryd.underlying9 (by omega)) ?_
              by_cases h_10 : ((((l.getD i 0).toNat : Nat) : Int) : Int) > (57 : Int)
              ·  -- yes
                refine K.RW.q rfl (by kernel_rfl) (K.QR.nice (v := .bool (decide (((((l.getD i 0).toNat : Nat) : Int) : Int) > (57 : Int)))) (by kernel_rfl) (congrArg Value.bool (decide_eq_true h_10))) ?_
                refine K.RW.qs [.bool true] (by kernel_rfl) ?_
                refine K.RW.nil ?_
                refine K.thn_normal ?_
                refine K.KW.ifT rfl ?_
                refine K.KW.seq ?_
                -- 8 :34
                refine K.KW.region ?_
                refine K.RW.qs [.int .i64 0, .int .i64 3] (by kernel_rfl) ?_
                refine K.RW.nil ?_
                refine K.thn_normal ?_
                refine K.KW.ret ?_
                refine K.thn_ret ?_
                refine K.blk_ret ?_
                refine K.thn_ret ?_
                refine K.thn_ret ?_
                refine K.blk_ret ?_
                refine K.thn_ret ?_
                refine ⟨.inr rfl, rfl, (.tuple #[.int .i64 0, .int .i64 3]), K.res2 rfl rfl rfl, [], ?_, hS.pick [0]⟩
                refine ⟨rfl, ?_⟩
                rw [numN_form]
                first | exact .inl (nil_len (by assumption)) | exact .inr (.inl (numR_lead (by omega) (by omega))) | exact .inr (.inr (notD (i := i) (by omega) (by omega)))
              ·  -- no
                refine K.RW.q rfl (by kernel_rfl) (K.QR.nice (v := .bool (decide (((((l.getD i 0).toNat : Nat) : Int) : Int) > (57 : Int)))) (by kernel_rfl) (congrArg Value.bool (decide_eq_false h_10))) ?_
                refine K.RW.qs [.bool false] (by kernel_rfl) ?_
                refine K.RW.nil ?_
                refine K.thn_normal ?_
                refine K.KW.ifF rfl ?_
                refine K.KW.skip ?_
                refine K.thn_normal ?_
                -- 9 :36
                have h12 := hinv.2.1
                have h256 := UInt8.toNat_lt (l.getD i 0)
                refine K.KW.region ?_
                refine K.RW.qs [.int .i64 ((n : Nat) : Int)] (by kernel_rfl) ?_
                refine K.RW.q rfl rfl (K.QR.n64 ((10 : Int) * (((n : Nat) : Int) : Int)) ((10 * n : Nat) : Int) (by kernel_rfl) (by omega)) ?_
                refine K.RW.qs [.string (K.sb l), .int .i64 ((i : Nat) : Int)] (by kernel_rfl) ?_
                refine K.RW.q rfl rfl (K.QR.sIx (xs := l) (i := i) rfl rfl rfl Tryd.underlying9 (by omega)) ?_
                refine K.RW.q rfl rfl (K.QR.nice (v := .int .i64 (IntKind.i64.wrap (((l.getD i 0).toNat : Nat) : Int))) (by kernel_rfl) (congrArg (Value.int .i64) (IntWalk.i64_in _ (by omega)))) ?_
                refine K.RW.q rfl rfl (K.QR.n64 ((((10 * n : Nat) : Int) : Int) + ((((l.getD i 0).toNat : Nat) : Int) : Int)) ((10 * n + (l.getD i 0).toNat : Nat) : Int) (by kernel_rfl) (by omega)) ?_
                refine K.RW.q rfl rfl (K.QR.turn (v := .int .i64 ((10 * n + (l.getD i 0).toNat - 48 : Nat) : Int)) (K.QR.n64 ((((10 * n + (l.getD i 0).toNat : Nat) : Int) : Int) - (48 : Int)) ((10 * n + (l.getD i 0).toNat - 48 : Nat) : Int) (by kernel_rfl) (by omega)) (congrArg (Value.int .i64) (show (((10 * n + (l.getD i 0).toNat - 48 : Nat) : Int) : Int) = ((((10 * n + ((l.getD i 0).toNat - 48)) : Nat) : Int) : Int) from by omega))) ?_
                by_cases h_11 : (99999999999 : Int) < ((((10 * n + ((l.getD i 0).toNat - 48)) : Nat) : Int) : Int)
                ·  -- yes
                  refine K.RW.q rfl rfl (K.QR.min2 99999999999 rfl rfl rfl (by omega)) ?_
                  refine K.RW.qs [.int .i64 99999999999] (by kernel_rfl) ?_
                  refine K.RW.nil ?_
                  refine K.blk_normal ?_
                  refine K.thn_normal ?_
                  -- 6 :32
                  refine K.KW.region ?_
                  refine K.RW.qs [.int .i64 ((i : Nat) : Int)] (by kernel_rfl) ?_
                  refine K.RW.q rfl rfl (K.QR.n64 ((((i : Nat) : Int) : Int) + (1 : Int)) ((i + 1 : Nat) : Int) (by kernel_rfl) (by omega)) ?_
                  refine K.RW.qs [.int .i64 ((i + 1 : Nat) : Int)] (by kernel_rfl) ?_
                  refine K.RW.nil ?_
                  refine K.thn_normal ?_
                  refine ⟨_, ?_, i + 1, 99999999999, rfl, ⟨by rfl, by rfl, by rfl, by rfl, by rfl, by rfl, trivial⟩, (by omega), (numS_next hinv (by omega) (by omega) (by omega) (by omega)), hS.pick [0]⟩
                  omega
                ·  -- no
                  refine K.RW.q rfl rfl (K.QR.min2 (((10 * n + ((l.getD i 0).toNat - 48)) : Nat) : Int) rfl rfl rfl (by omega)) ?_
                  refine K.RW.qs [.int .i64 (((10 * n + ((l.getD i 0).toNat - 48)) : Nat) : Int)] (by kernel_rfl) ?_
                  refine K.RW.nil ?_
                  refine K.blk_normal ?_
                  refine K.thn_normal ?_
                  -- 6 :32
                  refine K.KW.region ?_
                  refine K.RW.qs [.int .i64 ((i : Nat) : Int)] (by kernel_rfl) ?_
                  refine K.RW.q rfl rfl (K.QR.n64 ((((i : Nat) : Int) : Int) + (1 : Int)) ((i + 1 : Nat) : Int) (by kernel_rfl) (by omega)) ?_
                  refine K.RW.qs [.int .i64 ((i + 1 : Nat) : Int)] (by kernel_rfl) ?_
                  refine K.RW.nil ?_
                  refine K.thn_normal ?_
                  refine ⟨_, ?_, i + 1, (10 * n + ((l.getD i 0).toNat - 48)), rfl, ⟨by rfl, by rfl, by rfl, by rfl, by rfl, by rfl, trivial⟩, (by omega), (numS_next hinv (by omega) (by omega) (by omega) (by omega)), hS.pick [0]⟩
                  omega
          ·  -- no
            refine K.RW.q rfl rfl (K.QR.nice (v := .bool (decide ((((i : Nat) : Int) : Int) < (((l.length : Nat) : Int) : Int)))) (by kernel_rfl) (congrArg Value.bool (decide_eq_false h_8))) ?_
            refine K.RW.nil ?_
            refine K.thn_normal ?_
            refine K.KW.ifF rfl ?_
            refine K.KW.exit ?_
            refine K.thn_exit ?_
            refine K.thn_exit ?_
            refine K.blk_hit ?_
            refine K.thn_normal ?_
            refine K.KW.seq ?_
            refine K.KW.seq ?_
            -- 10 :38
            refine K.KW.region ?_
            refine K.RW.qs [.int .i64 ((n : Nat) : Int), .int .i64 least] (by kernel_rfl) ?_
            by_cases h_12 : (((n : Nat) : Int) : Int) < (least : Int)
            ·  -- yes
              refine K.RW.q rfl rfl (K.QR.nice (v := .bool (decide ((((n : Nat) : Int) : Int) < (least : Int)))) (by kernel_rfl) (congrArg Value.bool (decide_eq_true h_12))) ?_
              refine K.RW.qs [.bool true] (by kernel_rfl) ?_
              refine K.RW.skip rfl (by kernel_rfl) ?_
              refine K.RW.skip rfl (by kernel_rfl) ?_
              refine K.RW.skip rfl (by kernel_rfl) ?_
              refine K.RW.qs [.bool true] (by kernel_rfl) ?_
              refine K.RW.nil ?_
              refine K.thn_normal ?_
              refine K.KW.ifT rfl ?_
              refine K.KW.seq ?_
              -- 11 :39
              refine K.KW.region ?_
              refine K.RW.qs [.int .i64 0, .int .i64 5] (by kernel_rfl) ?_
              refine K.RW.nil ?_
              refine K.thn_normal ?_
              refine K.KW.ret ?_
              refine K.thn_ret ?_
              have h9 := numS_end hinv (by omega)
              have hg : ¬ (l = [] ∨ lead l ∨ ¬ (∀ x ∈ l, isD x)) := by
                rintro (h | h | h)
                · exact nil_nlen (by assumption) h
                · exact numR_nlead (by rintro ⟨_, _⟩; omega) h
                · exact h h9.2
              refine ⟨.inr rfl, rfl, (.tuple #[.int .i64 0, .int .i64 5]), K.res2 rfl rfl rfl, [], ?_, hS.pick [0]⟩
              exact ⟨rfl, by rw [numN_range hg h9.1 (by omega)]⟩
            ·  -- no
              refine K.RW.q rfl rfl (K.QR.nice (v := .bool (decide ((((n : Nat) : Int) : Int) < (least : Int)))) (by kernel_rfl) (congrArg Value.bool (decide_eq_false h_12))) ?_
              refine K.RW.qs [.bool false, .int .i64 ((n : Nat) : Int), .int .i64 most] (by kernel_rfl) ?_
              by_cases h_13 : (((n : Nat) : Int) : Int) > (most : Int)
              ·  -- yes
                refine K.RW.q rfl (by kernel_rfl) (K.QR.nice (v := .bool (decide ((((n : Nat) : Int) : Int) > (most : Int)))) (by kernel_rfl) (congrArg Value.bool (decide_eq_true h_13))) ?_
                refine K.RW.qs [.bool true] (by kernel_rfl) ?_
                refine K.RW.nil ?_
                refine K.thn_normal ?_
                refine K.KW.ifT rfl ?_
                refine K.KW.seq ?_
                -- 11 :39
                refine K.KW.region ?_
                refine K.RW.qs [.int .i64 0, .int .i64 5] (by kernel_rfl) ?_
                refine K.RW.nil ?_
                refine K.thn_normal ?_
                refine K.KW.ret ?_
                refine K.thn_ret ?_
                have h9 := numS_end hinv (by omega)
                have hg : ¬ (l = [] ∨ lead l ∨ ¬ (∀ x ∈ l, isD x)) := by
                  rintro (h | h | h)
                  · exact nil_nlen (by assumption) h
                  · exact numR_nlead (by rintro ⟨_, _⟩; omega) h
                  · exact h h9.2
                refine ⟨.inr rfl, rfl, (.tuple #[.int .i64 0, .int .i64 5]), K.res2 rfl rfl rfl, [], ?_, hS.pick [0]⟩
                exact ⟨rfl, by rw [numN_range hg h9.1 (by omega)]⟩
              ·  -- no
                refine K.RW.q rfl (by kernel_rfl) (K.QR.nice (v := .bool (decide ((((n : Nat) : Int) : Int) > (most : Int)))) (by kernel_rfl) (congrArg Value.bool (decide_eq_false h_13))) ?_
                refine K.RW.qs [.bool false] (by kernel_rfl) ?_
                refine K.RW.nil ?_
                refine K.thn_normal ?_
                refine K.KW.ifF rfl ?_
                refine K.KW.skip ?_
                refine K.thn_normal ?_
                refine K.KW.seq ?_
                -- 12 :41
                refine K.KW.region ?_
                refine K.RW.qs [.int .i64 ((n : Nat) : Int), .int .i64 ((n : Nat) : Int), .int .i64 0] (by kernel_rfl) ?_
                refine K.RW.nil ?_
                refine K.thn_normal ?_
                refine K.KW.ret ?_
                have h9 := numS_end hinv (by omega)
                have hg : ¬ (l = [] ∨ lead l ∨ ¬ (∀ x ∈ l, isD x)) := by
                  rintro (h | h | h)
                  · exact nil_nlen (by assumption) h
                  · exact numR_nlead (by rintro ⟨_, _⟩; omega) h
                  · exact h h9.2
                refine ⟨.inr rfl, rfl, (.tuple #[.int .i64 ((n : Nat) : Int), .int .i64 0]), K.res2 rfl rfl rfl, [], ?_, hS.pick [0]⟩
                exact ⟨rfl, by rw [numN_ok hg h9.1 (by omega)]⟩
    ·  -- no
      refine K.RW.q rfl (by kernel_rfl) (K.QR.nice (v := .bool (decide ((((l.length : Nat) : Int) : Int) > (1 : Int)))) (by kernel_rfl) (congrArg Value.bool (decide_eq_false h_2))) ?_
      refine K.RW.qs [.bool false] (by kernel_rfl) ?_
      refine K.RW.skip rfl (by kernel_rfl) ?_
      refine K.RW.skip rfl (by kernel_rfl) ?_
      refine K.RW.skip rfl (by kernel_rfl) ?_
      refine K.RW.qs [.bool false, .bool false] (by kernel_rfl) ?_
      refine K.RW.nil ?_
      refine K.thn_normal ?_
      refine K.KW.ifF rfl ?_
      refine K.KW.skip ?_
      refine K.thn_normal ?_
      refine K.KW.seq ?_
      -- 3 :31
      refine K.KW.region ?_
      refine K.RW.qs [.int .i64 0] (by kernel_rfl) ?_
      refine K.RW.nil ?_
      refine K.thn_normal ?_
      refine K.KW.seq ?_
      refine K.KW.seq ?_
      -- 4 :32
      refine K.KW.region ?_
      refine K.RW.qs [.int .i64 0] (by kernel_rfl) ?_
      refine K.RW.nil ?_
      refine K.thn_normal ?_
      refine K.KW.block ?_
      refine K.KW.loop (fun m_ F_ w_ => ∃ (i : Nat) (n : Nat), m_ = l.length - i ∧ K.Sl F_ [(0, .string (K.sb l)), (1, .int .i64 least), (2, .int .i64 most), (8, .int .i64 ((n : Nat) : Int)), (9, .int .i64 ((i : Nat) : Int)), (57, undef)] ∧ i ≤ l.length ∧ NumS l n i ∧ K.Sat w0 [fr] w_) ((fun (i : Nat) (n : Nat) => l.length - i) 0 0) ?_ ?_
      · -- begins
        exact ⟨0, 0, rfl, ⟨by rfl, by rfl, by rfl, by rfl, by rfl, by rfl, trivial⟩, (by omega), (numS0 l), hS.pick [0]⟩
      · -- a round
        clear hS
        intro m_14 F_15 w hI
        obtain ⟨i, n, rfl, sl_16, p_17, hinv, hS⟩ := hI
        rw [← K.Sl.puts sl_16]; clear sl_16
        refine K.KW.seq ?_
        refine K.KW.seq ?_
        -- 5 :32
        refine K.KW.region ?_
        refine K.RW.qs [.int .i64 ((i : Nat) : Int), .string (K.sb l)] (by kernel_rfl) ?_
        refine K.RW.q rfl rfl (K.QR.sLen (xs := l) rfl rfl Tryd.underlying9) ?_
        by_cases h_18 : (((i : Nat) : Int) : Int) < (((l.length : Nat) : Int) : Int)
        ·  -- yes
          refine K.RW.q rfl rfl (K.QR.nice (v := .bool (decide ((((i : Nat) : Int) : Int) < (((l.length : Nat) : Int) : Int)))) (by kernel_rfl) (congrArg Value.bool (decide_eq_true h_18))) ?_
          refine K.RW.nil ?_
          refine K.thn_normal ?_
          refine K.KW.ifT rfl ?_
          refine K.KW.skip ?_
          refine K.thn_normal ?_
          refine K.KW.seq ?_
          refine K.KW.block ?_
          refine K.KW.seq ?_
          refine K.KW.seq ?_
          -- 7 :33
          refine K.KW.region ?_
          refine K.RW.qs [.string (K.sb l), .int .i64 ((i : Nat) : Int)] (by kernel_rfl) ?_
          refine K.RW.q rfl rfl (K.QR.sIx (xs := l) (i := i) rfl rfl rfl Tryd.underlying9 (by omega)) ?_
          by_cases h_19 : ((((l.getD i 0).toNat : Nat) : Int) : Int) < (48 : Int)
          ·  -- yes
            refine K.RW.q rfl rfl (K.QR.nice (v := .bool (decide (((((l.getD i 0).toNat : Nat) : Int) : Int) < (48 : Int)))) (by kernel_rfl) (congrArg Value.bool (decide_eq_true h_19))) ?_
            refine K.RW.qs [.bool true] (by kernel_rfl) ?_
            refine K.RW.skip rfl (by kernel_rfl) ?_
            refine K.RW.skip rfl (by kernel_rfl) ?_
            refine K.RW.skip rfl (by kernel_rfl) ?_
            refine K.RW.skip rfl (by kernel_rfl) ?_
            refine K.RW.qs [.bool true] (by kernel_rfl) ?_
            refine K.RW.nil ?_
            refine K.thn_normal ?_
            refine K.KW.ifT rfl ?_
            refine K.KW.seq ?_
            -- 8 :34
            refine K.KW.region ?_
            refine K.RW.qs [.int .i64 0, .int .i64 3] (by kernel_rfl) ?_
            refine K.RW.nil ?_
            refine K.thn_normal ?_
            refine K.KW.ret ?_
            refine K.thn_ret ?_
            refine K.blk_ret ?_
            refine K.thn_ret ?_
            refine K.thn_ret ?_
            refine K.blk_ret ?_
            refine K.thn_ret ?_
            refine ⟨.inr rfl, rfl, (.tuple #[.int .i64 0, .int .i64 3]), K.res2 rfl rfl rfl, [], ?_, hS.pick [0]⟩
            refine ⟨rfl, ?_⟩
            rw [numN_form]
            first | exact .inl (nil_len (by assumption)) | exact .inr (.inl (numR_lead (by omega) (by omega))) | exact .inr (.inr (notD (i := i) (by omega) (by omega)))
          ·  -- no
            refine K.RW.q rfl rfl (K.QR.nice (v := .bool (decide (((((l.getD i 0).toNat : Nat) : Int) : Int) < (48 : Int)))) (by kernel_rfl) (congrArg Value.bool (decide_eq_false h_19))) ?_
            refine K.RW.qs [.bool false, .string (K.sb l), .int .i64 ((i : Nat) : Int)] (by kernel_rfl) ?_
            refine K.RW.q rfl (by kernel_rfl) (K.QR.sIx (xs := l) (i := i) rfl rfl rfl Tryd.underlying9 (by omega)) ?_
            by_cases h_20 : ((((l.getD i 0).toNat : Nat) : Int) : Int) > (57 : Int)
            ·  -- yes
              refine K.RW.q rfl (by kernel_rfl) (K.QR.nice (v := .bool (decide (((((l.getD i 0).toNat : Nat) : Int) : Int) > (57 : Int)))) (by kernel_rfl) (congrArg Value.bool (decide_eq_true h_20))) ?_
              refine K.RW.qs [.bool true] (by kernel_rfl) ?_
              refine K.RW.nil ?_
              refine K.thn_normal ?_
              refine K.KW.ifT rfl ?_
              refine K.KW.seq ?_
              -- 8 :34
              refine K.KW.region ?_
              refine K.RW.qs [.int .i64 0, .int .i64 3] (by kernel_rfl) ?_
              refine K.RW.nil ?_
              refine K.thn_normal ?_
              refine K.KW.ret ?_
              refine K.thn_ret ?_
              refine K.blk_ret ?_
              refine K.thn_ret ?_
              refine K.thn_ret ?_
              refine K.blk_ret ?_
              refine K.thn_ret ?_
              refine ⟨.inr rfl, rfl, (.tuple #[.int .i64 0, .int .i64 3]), K.res2 rfl rfl rfl, [], ?_, hS.pick [0]⟩
              refine ⟨rfl, ?_⟩
              rw [numN_form]
              first | exact .inl (nil_len (by assumption)) | exact .inr (.inl (numR_lead (by omega) (by omega))) | exact .inr (.inr (notD (i := i) (by omega) (by omega)))
            ·  -- no
              refine K.RW.q rfl (by kernel_rfl) (K.QR.nice (v := .bool (decide (((((l.getD i 0).toNat : Nat) : Int) : Int) > (57 : Int)))) (by kernel_rfl) (congrArg Value.bool (decide_eq_false h_20))) ?_
              refine K.RW.qs [.bool false] (by kernel_rfl) ?_
              refine K.RW.nil ?_
              refine K.thn_normal ?_
              refine K.KW.ifF rfl ?_
              refine K.KW.skip ?_
              refine K.thn_normal ?_
              -- 9 :36
              have h12 := hinv.2.1
              have h256 := UInt8.toNat_lt (l.getD i 0)
              refine K.KW.region ?_
              refine K.RW.qs [.int .i64 ((n : Nat) : Int)] (by kernel_rfl) ?_
              refine K.RW.q rfl rfl (K.QR.n64 ((10 : Int) * (((n : Nat) : Int) : Int)) ((10 * n : Nat) : Int) (by kernel_rfl) (by omega)) ?_
              refine K.RW.qs [.string (K.sb l), .int .i64 ((i : Nat) : Int)] (by kernel_rfl) ?_
              refine K.RW.q rfl rfl (K.QR.sIx (xs := l) (i := i) rfl rfl rfl Tryd.underlying9 (by omega)) ?_
              refine K.RW.q rfl rfl (K.QR.nice (v := .int .i64 (IntKind.i64.wrap (((l.getD i 0).toNat : Nat) : Int))) (by kernel_rfl) (congrArg (Value.int .i64) (IntWalk.i64_in _ (by omega)))) ?_
              refine K.RW.q rfl rfl (K.QR.n64 ((((10 * n : Nat) : Int) : Int) + ((((l.getD i 0).toNat : Nat) : Int) : Int)) ((10 * n + (l.getD i 0).toNat : Nat) : Int) (by kernel_rfl) (by omega)) ?_
              refine K.RW.q rfl rfl (K.QR.turn (v := .int .i64 ((10 * n + (l.getD i 0).toNat - 48 : Nat) : Int)) (K.QR.n64 ((((10 * n + (l.getD i 0).toNat : Nat) : Int) : Int) - (48 : Int)) ((10 * n + (l.getD i 0).toNat - 48 : Nat) : Int) (by kernel_rfl) (by omega)) (congrArg (Value.int .i64) (show (((10 * n + (l.getD i 0).toNat - 48 : Nat) : Int) : Int) = ((((10 * n + ((l.getD i 0).toNat - 48)) : Nat) : Int) : Int) from by omega))) ?_
              by_cases h_21 : (99999999999 : Int) < ((((10 * n + ((l.getD i 0).toNat - 48)) : Nat) : Int) : Int)
              ·  -- yes
                refine K.RW.q rfl rfl (K.QR.min2 99999999999 rfl rfl rfl (by omega)) ?_
                refine K.RW.qs [.int .i64 99999999999] (by kernel_rfl) ?_
                refine K.RW.nil ?_
                refine K.blk_normal ?_
                refine K.thn_normal ?_
                -- 6 :32
                refine K.KW.region ?_
                refine K.RW.qs [.int .i64 ((i : Nat) : Int)] (by kernel_rfl) ?_
                refine K.RW.q rfl rfl (K.QR.n64 ((((i : Nat) : Int) : Int) + (1 : Int)) ((i + 1 : Nat) : Int) (by kernel_rfl) (by omega)) ?_
                refine K.RW.qs [.int .i64 ((i + 1 : Nat) : Int)] (by kernel_rfl) ?_
                refine K.RW.nil ?_
                refine K.thn_normal ?_
                refine ⟨_, ?_, i + 1, 99999999999, rfl, ⟨by rfl, by rfl, by rfl, by rfl, by rfl, by rfl, trivial⟩, (by omega), (numS_next hinv (by omega) (by omega) (by omega) (by omega)), hS.pick [0]⟩
                omega
              ·  -- no
                refine K.RW.q rfl rfl (K.QR.min2 (((10 * n + ((l.getD i 0).toNat - 48)) : Nat) : Int) rfl rfl rfl (by omega)) ?_
                refine K.RW.qs [.int .i64 (((10 * n + ((l.getD i 0).toNat - 48)) : Nat) : Int)] (by kernel_rfl) ?_
                refine K.RW.nil ?_
                refine K.blk_normal ?_
                refine K.thn_normal ?_
                -- 6 :32
                refine K.KW.region ?_
                refine K.RW.qs [.int .i64 ((i : Nat) : Int)] (by kernel_rfl) ?_
                refine K.RW.q rfl rfl (K.QR.n64 ((((i : Nat) : Int) : Int) + (1 : Int)) ((i + 1 : Nat) : Int) (by kernel_rfl) (by omega)) ?_
                refine K.RW.qs [.int .i64 ((i + 1 : Nat) : Int)] (by kernel_rfl) ?_
                refine K.RW.nil ?_
                refine K.thn_normal ?_
                refine ⟨_, ?_, i + 1, (10 * n + ((l.getD i 0).toNat - 48)), rfl, ⟨by rfl, by rfl, by rfl, by rfl, by rfl, by rfl, trivial⟩, (by omega), (numS_next hinv (by omega) (by omega) (by omega) (by omega)), hS.pick [0]⟩
                omega
        ·  -- no
          refine K.RW.q rfl rfl (K.QR.nice (v := .bool (decide ((((i : Nat) : Int) : Int) < (((l.length : Nat) : Int) : Int)))) (by kernel_rfl) (congrArg Value.bool (decide_eq_false h_18))) ?_
          refine K.RW.nil ?_
          refine K.thn_normal ?_
          refine K.KW.ifF rfl ?_
          refine K.KW.exit ?_
          refine K.thn_exit ?_
          refine K.thn_exit ?_
          refine K.blk_hit ?_
          refine K.thn_normal ?_
          refine K.KW.seq ?_
          refine K.KW.seq ?_
          -- 10 :38
          refine K.KW.region ?_
          refine K.RW.qs [.int .i64 ((n : Nat) : Int), .int .i64 least] (by kernel_rfl) ?_
          by_cases h_22 : (((n : Nat) : Int) : Int) < (least : Int)
          ·  -- yes
            refine K.RW.q rfl rfl (K.QR.nice (v := .bool (decide ((((n : Nat) : Int) : Int) < (least : Int)))) (by kernel_rfl) (congrArg Value.bool (decide_eq_true h_22))) ?_
            refine K.RW.qs [.bool true] (by kernel_rfl) ?_
            refine K.RW.skip rfl (by kernel_rfl) ?_
            refine K.RW.skip rfl (by kernel_rfl) ?_
            refine K.RW.skip rfl (by kernel_rfl) ?_
            refine K.RW.qs [.bool true] (by kernel_rfl) ?_
            refine K.RW.nil ?_
            refine K.thn_normal ?_
            refine K.KW.ifT rfl ?_
            refine K.KW.seq ?_
            -- 11 :39
            refine K.KW.region ?_
            refine K.RW.qs [.int .i64 0, .int .i64 5] (by kernel_rfl) ?_
            refine K.RW.nil ?_
            refine K.thn_normal ?_
            refine K.KW.ret ?_
            refine K.thn_ret ?_
            have h9 := numS_end hinv (by omega)
            have hg : ¬ (l = [] ∨ lead l ∨ ¬ (∀ x ∈ l, isD x)) := by
              rintro (h | h | h)
              · exact nil_nlen (by assumption) h
              · exact numR_nlead (by rintro ⟨_, _⟩; omega) h
              · exact h h9.2
            refine ⟨.inr rfl, rfl, (.tuple #[.int .i64 0, .int .i64 5]), K.res2 rfl rfl rfl, [], ?_, hS.pick [0]⟩
            exact ⟨rfl, by rw [numN_range hg h9.1 (by omega)]⟩
          ·  -- no
            refine K.RW.q rfl rfl (K.QR.nice (v := .bool (decide ((((n : Nat) : Int) : Int) < (least : Int)))) (by kernel_rfl) (congrArg Value.bool (decide_eq_false h_22))) ?_
            refine K.RW.qs [.bool false, .int .i64 ((n : Nat) : Int), .int .i64 most] (by kernel_rfl) ?_
            by_cases h_23 : (((n : Nat) : Int) : Int) > (most : Int)
            ·  -- yes
              refine K.RW.q rfl (by kernel_rfl) (K.QR.nice (v := .bool (decide ((((n : Nat) : Int) : Int) > (most : Int)))) (by kernel_rfl) (congrArg Value.bool (decide_eq_true h_23))) ?_
              refine K.RW.qs [.bool true] (by kernel_rfl) ?_
              refine K.RW.nil ?_
              refine K.thn_normal ?_
              refine K.KW.ifT rfl ?_
              refine K.KW.seq ?_
              -- 11 :39
              refine K.KW.region ?_
              refine K.RW.qs [.int .i64 0, .int .i64 5] (by kernel_rfl) ?_
              refine K.RW.nil ?_
              refine K.thn_normal ?_
              refine K.KW.ret ?_
              refine K.thn_ret ?_
              have h9 := numS_end hinv (by omega)
              have hg : ¬ (l = [] ∨ lead l ∨ ¬ (∀ x ∈ l, isD x)) := by
                rintro (h | h | h)
                · exact nil_nlen (by assumption) h
                · exact numR_nlead (by rintro ⟨_, _⟩; omega) h
                · exact h h9.2
              refine ⟨.inr rfl, rfl, (.tuple #[.int .i64 0, .int .i64 5]), K.res2 rfl rfl rfl, [], ?_, hS.pick [0]⟩
              exact ⟨rfl, by rw [numN_range hg h9.1 (by omega)]⟩
            ·  -- no
              refine K.RW.q rfl (by kernel_rfl) (K.QR.nice (v := .bool (decide ((((n : Nat) : Int) : Int) > (most : Int)))) (by kernel_rfl) (congrArg Value.bool (decide_eq_false h_23))) ?_
              refine K.RW.qs [.bool false] (by kernel_rfl) ?_
              refine K.RW.nil ?_
              refine K.thn_normal ?_
              refine K.KW.ifF rfl ?_
              refine K.KW.skip ?_
              refine K.thn_normal ?_
              refine K.KW.seq ?_
              -- 12 :41
              refine K.KW.region ?_
              refine K.RW.qs [.int .i64 ((n : Nat) : Int), .int .i64 ((n : Nat) : Int), .int .i64 0] (by kernel_rfl) ?_
              refine K.RW.nil ?_
              refine K.thn_normal ?_
              refine K.KW.ret ?_
              have h9 := numS_end hinv (by omega)
              have hg : ¬ (l = [] ∨ lead l ∨ ¬ (∀ x ∈ l, isD x)) := by
                rintro (h | h | h)
                · exact nil_nlen (by assumption) h
                · exact numR_nlead (by rintro ⟨_, _⟩; omega) h
                · exact h h9.2
              refine ⟨.inr rfl, rfl, (.tuple #[.int .i64 ((n : Nat) : Int), .int .i64 0]), K.res2 rfl rfl rfl, [], ?_, hS.pick [0]⟩
              exact ⟨rfl, by rw [numN_ok hg h9.1 (by omega)]⟩
set_option maxHeartbeats 1000000 in
set_option maxRecDepth 100000 in
theorem rnum_ok (w0 : World) (l : List UInt8) (most : Int) (hl : l.length ≤ 1000000) (hm : most ≤ 4294967295) :
    K.GC Tryd.prog w0 44 #[.string (K.sb l), .int .i64 most] [] (fun v post => post = [] ∧ v = .int .i64 (numR l most)) := by
  refine K.GC.mk (n := 16) Tryd.func44 rfl rfl [.string (K.sb l), .int .i64 most] rfl rfl ?_
  intro fr w hS
  replace hS : K.Sat w0 [fr] w := hS
  refine K.KW.seq ?_
  -- 0 :50
  refine K.KW.region ?_
  refine K.RW.qs [.int .i64 0] (by kernel_rfl) ?_
  refine K.RW.nil ?_
  refine K.thn_normal ?_
  refine K.KW.seq ?_
  -- 1 :51
  refine K.KW.region ?_
  refine K.RW.qs [.string (K.sb l), .int .i64 most] (by kernel_rfl) ?_
  refine K.RW.l rfl (K.OW.gcall hS [] [0] [.string (K.sb l), .int .i64 0, .int .i64 most] (rnumber_ok _ l 0 most (by omega)) ?_)
  clear hS; rintro _ _ w ⟨rfl, rfl⟩ hS
  replace hS : K.Sat w0 [fr] w := hS
  refine K.RW.qs [.tuple #[.int .i64 ((numN l 0 most).1), .int .i64 ((numN l 0 most).2)], .int .i64 ((numN l 0 most).1), .int .i64 ((numN l 0 most).2), .int .i64 ((numN l 0 most).1), .int .i64 ((numN l 0 most).2)] (by kernel_rfl) ?_
  refine K.RW.nil ?_
  refine K.thn_normal ?_
  refine K.KW.seq ?_
  refine K.KW.seq ?_
  -- 2 :52
  refine K.KW.region ?_
  refine K.RW.qs [.int .i64 ((numN l 0 most).2)] (by kernel_rfl) ?_
  by_cases h_1 : ((numN l 0 most).2 : Int) = (0 : Int)
  ·  -- yes
    refine K.RW.q rfl rfl (K.QR.nice (v := .bool (((numN l 0 most).2 : Int) != (0 : Int))) (by kernel_rfl) (congrArg Value.bool (bne_eq_false_iff_eq.2 h_1))) ?_
    refine K.RW.nil ?_
    refine K.thn_normal ?_
    refine K.KW.ifF rfl ?_
    refine K.KW.skip ?_
    refine K.thn_normal ?_
    refine K.KW.seq ?_
    -- 4 :55
    refine K.KW.region ?_
    refine K.RW.qs [.int .i64 ((numN l 0 most).1), .int .i64 ((numN l 0 most).1)] (by kernel_rfl) ?_
    refine K.RW.nil ?_
    refine K.thn_normal ?_
    refine K.KW.ret ?_
    refine ⟨.inr rfl, rfl, (.int .i64 ((numN l 0 most).1)), K.res1 rfl rfl, [], ?_, hS.pick [0]⟩
    exact ⟨rfl, by rw [← numN_R hm, if_pos (by omega)]⟩
  ·  -- no
    refine K.RW.q rfl rfl (K.QR.nice (v := .bool (((numN l 0 most).2 : Int) != (0 : Int))) (by kernel_rfl) (congrArg Value.bool (bne_iff_ne.2 h_1))) ?_
    refine K.RW.nil ?_
    refine K.thn_normal ?_
    refine K.KW.ifT rfl ?_
    refine K.KW.seq ?_
    -- 3 :53
    refine K.KW.region ?_
    refine K.RW.qs [.int .i64 (-1)] (by kernel_rfl) ?_
    refine K.RW.nil ?_
    refine K.thn_normal ?_
    refine K.KW.ret ?_
    refine K.thn_ret ?_
    refine ⟨.inr rfl, rfl, (.int .i64 (-1)), K.res1 rfl rfl, [], ?_, hS.pick [0]⟩
    exact ⟨rfl, by rw [← numN_R hm, if_neg (by omega)]⟩
/-- a time, as the document reads it: -2 is no time -/
def whenT (x : List UInt8) : Int := if x = [45] then -1 else if numR x 1099511627776 = -1 then -2 else numR x 1099511627776
theorem numR_ge (l : List UInt8) (m : Int) : -1 ≤ numR l m := by unfold numR; split <;> omega
theorem numR_le {l : List UInt8} {m : Int} (h : 0 ≤ numR l m) : numR l m ≤ m := by
  unfold numR at h ⊢
  split
  · rename_i hh; rw [if_pos hh] at h; omega
  · rename_i hh
    rcases Int.lt_or_le m (val l : Int) with h9 | h9
    · exact absurd (.inr (.inr (.inr (.inr h9)))) hh
    · exact h9
end Go.Proofs.YtnehocjmgnhhhaaDoor
