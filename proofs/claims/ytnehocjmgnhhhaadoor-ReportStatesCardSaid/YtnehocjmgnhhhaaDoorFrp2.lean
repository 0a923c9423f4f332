import Derived.Test.YtnehocjmgnhhhaaDoorFrp
/- Reports: the code's digits, numbers, names. -/
namespace Go.Proofs.YtnehocjmgnhhhaaDoor
open Go.RowKit
set_option linter.unusedVariables false
attribute [local irreducible] K.KW K.RW K.DW K.OW K.QR K.KC
set_option maxHeartbeats 1000000 in
set_option maxRecDepth 100000 in
theorem digits_step (w0 : World) (n : Nat) (hn : n ≤ 9223372036854775807) (IH : ∀ m : Nat, m < n → K.GC Tryd.prog w0 47 #[.int .i64 ((m : Nat) : Int)] [] (fun v post => post = [] ∧ v = .string (K.sb (dg m)))) :
    K.GC Tryd.prog w0 47 #[.int .i64 ((n : Nat) : Int)] [] (fun v post => post = [] ∧ v = .string (K.sb (dg n))) := by
  refine K.GC.mk (n := 21) Tryd.func47 rfl rfl [.int .i64 ((n : Nat) : Int)] rfl rfl ?_
  intro fr w hS
  replace hS : K.Sat w0 [fr] w := hS
  refine K.KW.seq ?_
  -- 0 :44
  refine K.KW.region ?_
  refine K.RW.qs [.string (K.sb [])] (by kernel_rfl) ?_
  refine K.RW.nil ?_
  refine K.thn_normal ?_
  refine K.KW.seq ?_
  refine K.KW.block ?_
  refine K.KW.seq ?_
  -- 1 :46
  refine K.KW.region ?_
  refine K.RW.qs [.int .i64 ((n : Nat) : Int)] (by kernel_rfl) ?_
  refine K.RW.q rfl rfl (K.QR.nice (v := .bool ((((n : Nat) : Int) : Int) == ((-1) : Int))) (by kernel_rfl) (congrArg Value.bool (beq_eq_false_iff_ne.2 (by omega)))) ?_
  refine K.RW.qs [.bool false] (by kernel_rfl) ?_
  refine K.RW.nil ?_
  refine K.thn_normal ?_
  refine K.KW.ifF rfl ?_
  refine K.KW.seq ?_
  -- 3 :48
  refine K.KW.region ?_
  refine K.RW.qs [.int .i64 ((n : Nat) : Int)] (by kernel_rfl) ?_
  by_cases h_1 : (((n : Nat) : Int) : Int) < (10 : Int)
  ·  -- yes
    refine K.RW.q rfl rfl (K.QR.nice (v := .bool (decide ((((n : Nat) : Int) : Int) < (10 : Int)))) (by kernel_rfl) (congrArg Value.bool (decide_eq_true h_1))) ?_
    refine K.RW.qs [.bool true] (by kernel_rfl) ?_
    refine K.RW.nil ?_
    refine K.thn_normal ?_
    refine K.KW.ifT rfl ?_
    refine K.KW.seq ?_
    -- 4 :49
    refine K.KW.region ?_
    refine K.RW.qs [.int .i64 ((n : Nat) : Int)] (by kernel_rfl) ?_
    refine K.RW.q rfl rfl (K.QR.n64 ((48 : Int) + (((n : Nat) : Int) : Int)) ((48 + n : Nat) : Int) (by kernel_rfl) (by omega)) ?_
    refine K.RW.q rfl rfl (K.QR.nice (v := .int .u8 (IntKind.u8.wrap ((48 + n : Nat) : Int))) (by kernel_rfl) (congrArg (Value.int .u8) (IntWalk.u8_in _ (by omega)))) ?_
    refine K.RW.l rfl (K.OW.gbs [(0, .int .u8 ((48 + n : Nat) : Int))] [.int .u8 ((48 + n : Nat) : Int)] hS (fun w => K.bs_run (P := Tryd.prog) w 66 5 1 _ _ Tryd.underlying66 (by kernel_rfl)) ?_)
    clear hS; intro w r_2 g_3 hg_4 hS
    refine K.RW.q rfl rfl (K.QR.sOf (xs := [(((48 + n : Nat) : Int) : Int)]) (ys := [UInt8.ofNat (48 + n)]) rfl rfl Tryd.underlying66 Tryd.underlying5 Tryd.underlying9 rfl (K.Blk.rowE (c := cU8) 0 (L := [(((48 + n : Nat) : Int) : Int)]) (hS.blk 0 rfl hg_4) (fun _ => rfl) rfl) (rfl)) ?_
    refine K.RW.qs [.string (K.sb [UInt8.ofNat (48 + n)])] (by kernel_rfl) ?_
    refine K.RW.nil ?_
    refine K.thn_normal ?_
    refine K.KW.ret ?_
    refine K.blk_ret ?_
    refine K.thn_ret ?_
    refine ⟨.inr rfl, rfl, (.string (K.sb [UInt8.ofNat (48 + n)])), K.res1 rfl rfl, [], ?_, hS.pick [1]⟩
    exact ⟨rfl, by rw [dg_lt (n := n) (by omega)]⟩
  ·  -- no
    refine K.RW.q rfl rfl (K.QR.nice (v := .bool (decide ((((n : Nat) : Int) : Int) < (10 : Int)))) (by kernel_rfl) (congrArg Value.bool (decide_eq_false h_1))) ?_
    refine K.RW.qs [.bool false] (by kernel_rfl) ?_
    refine K.RW.nil ?_
    refine K.thn_normal ?_
    refine K.KW.ifF rfl ?_
    refine K.KW.skip ?_
    refine K.blk_normal ?_
    refine K.thn_normal ?_
    refine K.KW.seq ?_
    -- 5 :51
    refine K.KW.region ?_
    refine K.RW.qs [.int .i64 ((n : Nat) : Int)] (by kernel_rfl) ?_
    refine K.RW.q rfl rfl (K.QR.quoi64 (((n : Nat) : Int) : Int) 10 ((n / 10 : Nat) : Int) (by kernel_rfl) (by omega) (by omega)) ?_
    refine K.RW.l rfl (K.OW.gcall hS [] [0] [.int .i64 ((n / 10 : Nat) : Int)] (IH (n / 10) (by omega)) ?_)
    clear hS; rintro _ _ w ⟨rfl, rfl⟩ hS
    replace hS : K.Sat w0 [fr] w := hS
    refine K.RW.qs [.int .i64 ((n : Nat) : Int)] (by kernel_rfl) ?_
    refine K.RW.q rfl rfl (K.QR.remi64 (((n : Nat) : Int) : Int) 10 ((n % 10 : Nat) : Int) (by kernel_rfl) (by omega) (by omega)) ?_
    refine K.RW.l rfl (K.OW.gcall hS [] [0] [.int .i64 ((n % 10 : Nat) : Int)] (IH (n % 10) (by omega)) ?_)
    clear hS; rintro _ _ w ⟨rfl, rfl⟩ hS
    replace hS : K.Sat w0 [fr] w := hS
    refine K.RW.q rfl rfl (K.QR.sAdd (xs := (dg (n / 10))) (ys := (dg (n % 10))) rfl rfl rfl (by have h1 := dg_len20 (n := n / 10) (by omega); have h2 := dg_len20 (n := n % 10) (by omega); (try simp only [List.length_append, List.length_cons, List.length_nil] at *); omega)) ?_
    refine K.RW.qs [.string (K.sb ((dg (n / 10)) ++ (dg (n % 10))))] (by kernel_rfl) ?_
    refine K.RW.nil ?_
    refine K.thn_normal ?_
    refine K.KW.ret ?_
    refine ⟨.inr rfl, rfl, (.string (K.sb ((dg (n / 10)) ++ (dg (n % 10))))), K.res1 rfl rfl, [], ?_, hS.pick [0]⟩
    exact ⟨rfl, by rw [dg_ge (n := n) (by omega), dg_lt (n := n % 10) (by omega)]⟩
theorem digits_nat (w0 : World) (n : Nat) : n ≤ 9223372036854775807 → K.GC Tryd.prog w0 47 #[.int .i64 ((n : Nat) : Int)] [] (fun v post => post = [] ∧ v = .string (K.sb (dg n))) :=
  Nat.strongRecOn n fun n ih hn => digits_step w0 n hn fun m hm => ih m hm (by omega)
set_option maxHeartbeats 1000000 in
set_option maxRecDepth 100000 in
theorem digits_m1 (w0 : World)  :
    K.GC Tryd.prog w0 47 #[.int .i64 (-1)] [] (fun v post => post = [] ∧ v = .string (K.sb [45])) := by
  refine K.GC.mk (n := 21) Tryd.func47 rfl rfl [.int .i64 (-1)] rfl rfl ?_
  intro fr w hS
  replace hS : K.Sat w0 [fr] w := hS
  refine K.KW.seq ?_
  -- 0 :44
  refine K.KW.region ?_
  refine K.RW.qs [.string (K.sb [])] (by kernel_rfl) ?_
  refine K.RW.nil ?_
  refine K.thn_normal ?_
  refine K.KW.seq ?_
  refine K.KW.block ?_
  refine K.KW.seq ?_
  -- 1 :46
  refine K.KW.region ?_
  refine K.RW.qs [.int .i64 (-1), .bool true, .bool true] (by kernel_rfl) ?_
  refine K.RW.nil ?_
  refine K.thn_normal ?_
  refine K.KW.ifT rfl ?_
  refine K.KW.seq ?_
  -- 2 :47
  refine K.KW.region ?_
  refine K.RW.qs [.string (K.sb [45])] (by kernel_rfl) ?_
  refine K.RW.nil ?_
  refine K.thn_normal ?_
  refine K.KW.ret ?_
  refine K.blk_ret ?_
  refine K.thn_ret ?_
  refine ⟨.inr rfl, rfl, (.string (K.sb [45])), K.res1 rfl rfl, [], ?_, hS.pick [0]⟩
  exact ⟨rfl, rfl⟩
theorem digits_ok (w0 : World) (n : Int) (h1 : -1 ≤ n) (h2 : n ≤ 9223372036854775807) : K.GC Tryd.prog w0 47 #[.int .i64 n] [] (fun v post => post = [] ∧ v = .string (K.sb (dgR n))) := by
  unfold dgR
  by_cases h : n = -1
  · subst h; rw [if_pos rfl]; exact digits_m1 w0
  · rw [if_neg h]
    obtain ⟨m, rfl⟩ : ∃ m : Nat, n = m := ⟨n.toNat, by omega⟩
    rw [Int.toNat_natCast]
    exact digits_nat w0 m (by omega)
set_option maxHeartbeats 1000000 in
set_option maxRecDepth 100000 in
theorem number_ok (w0 : World) (l : List UInt8) (most : Int) (hl : l.length ≤ 1000000) (hm : most ≤ 1099511627776) :
    K.GC Tryd.prog w0 34 #[.string (K.sb l), .int .i64 most] [] (fun v post => post = [] ∧ v = .int .i64 (numR l most)) := by
  refine K.GC.mk (n := 52) Tryd.func34 rfl rfl [.string (K.sb l), .int .i64 most] rfl rfl ?_
  intro fr w hS
  replace hS : K.Sat w0 [fr] w := hS
  refine K.KW.seq ?_
  -- 0 :75
  refine K.KW.region ?_
  refine K.RW.qs [.int .i64 0] (by kernel_rfl) ?_
  refine K.RW.nil ?_
  refine K.thn_normal ?_
  refine K.KW.seq ?_
  refine K.KW.seq ?_
  -- 1 :76
  refine K.KW.region ?_
  refine K.RW.qs [.string (K.sb l)] (by kernel_rfl) ?_
  by_cases h_1 : l = ([] : List UInt8)
  ·  -- yes
    refine K.RW.q rfl rfl (K.QR.sEq (xs := l) (ys := []) true rfl rfl rfl (K.deq_t h_1)) ?_
    refine K.RW.qs [.bool true] (by kernel_rfl) ?_
    refine K.RW.skip rfl (by kernel_rfl) ?_
    refine K.RW.skip rfl (by kernel_rfl) ?_
    refine K.RW.skip rfl (by kernel_rfl) ?_
    refine K.RW.qs [.bool true, .bool true] (by kernel_rfl) ?_
    refine K.RW.skip rfl (by kernel_rfl) ?_
    refine K.RW.skip rfl (by kernel_rfl) ?_
    refine K.RW.skip rfl (by kernel_rfl) ?_
    refine K.RW.skip rfl (by kernel_rfl) ?_
    refine K.RW.skip rfl (by kernel_rfl) ?_
    refine K.RW.skip rfl (by kernel_rfl) ?_
    refine K.RW.skip rfl (by kernel_rfl) ?_
    refine K.RW.skip rfl (by kernel_rfl) ?_
    refine K.RW.qs [.bool true] (by kernel_rfl) ?_
    refine K.RW.nil ?_
    refine K.thn_normal ?_
    refine K.KW.ifT rfl ?_
    refine K.KW.seq ?_
    -- 2 :77
    refine K.KW.region ?_
    refine K.RW.qs [.int .i64 (-1)] (by kernel_rfl) ?_
    refine K.RW.nil ?_
    refine K.thn_normal ?_
    refine K.KW.ret ?_
    refine K.thn_ret ?_
    refine ⟨.inr rfl, rfl, (.int .i64 (-1)), K.res1 rfl rfl, [], ?_, hS.pick [0]⟩
    refine ⟨rfl, ?_⟩
    rw [numR_bad]
    first | exact .inl (by assumption) | (refine .inr (.inl ?_); omega) | (refine .inr (.inr (.inl ?_)); exact numR_lead (by omega) (by omega)) | (refine .inr (.inr (.inr (.inl ?_))); exact notD (i := i) (by omega) (by omega)) | (refine .inr (.inr (.inr (.inr ?_))); have h9 := (numI_end hinv (by omega)).1; omega)
  ·  -- no
    refine K.RW.q rfl rfl (K.QR.sEq (xs := l) (ys := []) false rfl rfl rfl (K.deq_f h_1)) ?_
    refine K.RW.qs [.bool false, .string (K.sb l)] (by kernel_rfl) ?_
    refine K.RW.q rfl (by kernel_rfl) (K.QR.sLen (xs := l) rfl rfl Tryd.underlying9) ?_
    by_cases h_2 : (((l.length : Nat) : Int) : Int) > (13 : Int)
    ·  -- yes
      refine K.RW.q rfl (by kernel_rfl) (K.QR.nice (v := .bool (decide ((((l.length : Nat) : Int) : Int) > (13 : Int)))) (by kernel_rfl) (congrArg Value.bool (decide_eq_true h_2))) ?_
      refine K.RW.qs [.bool true, .bool true] (by kernel_rfl) ?_
      refine K.RW.skip rfl (by kernel_rfl) ?_
      refine K.RW.skip rfl (by kernel_rfl) ?_
      refine K.RW.skip rfl (by kernel_rfl) ?_
      refine K.RW.skip rfl (by kernel_rfl) ?_
      refine K.RW.skip rfl (by kernel_rfl) ?_
      refine K.RW.skip rfl (by kernel_rfl) ?_
      refine K.RW.skip rfl (by kernel_rfl) ?_
      refine K.RW.skip rfl (by kernel_rfl) ?_
      refine K.RW.qs [.bool true] (by kernel_rfl) ?_
      refine K.RW.nil ?_
      refine K.thn_normal ?_
      refine K.KW.ifT rfl ?_
      refine K.KW.seq ?_
      -- 2 :77
      refine K.KW.region ?_
      refine K.RW.qs [.int .i64 (-1)] (by kernel_rfl) ?_
      refine K.RW.nil ?_
      refine K.thn_normal ?_
      refine K.KW.ret ?_
      refine K.thn_ret ?_
      refine ⟨.inr rfl, rfl, (.int .i64 (-1)), K.res1 rfl rfl, [], ?_, hS.pick [0]⟩
      refine ⟨rfl, ?_⟩
      rw [numR_bad]
      first | exact .inl (by assumption) | (refine .inr (.inl ?_); omega) | (refine .inr (.inr (.inl ?_)); exact numR_lead (by omega) (by omega)) | (refine .inr (.inr (.inr (.inl ?_))); exact notD (i := i) (by omega) (by omega)) | (refine .inr (.inr (.inr (.inr ?_))); have h9 := (numI_end hinv (by omega)).1; omega)
    ·  -- no
      refine K.RW.q rfl (by kernel_rfl) (K.QR.nice (v := .bool (decide ((((l.length : Nat) : Int) : Int) > (13 : Int)))) (by kernel_rfl) (congrArg Value.bool (decide_eq_false h_2))) ?_
      refine K.RW.qs [.bool false, .bool false, .string (K.sb l)] (by kernel_rfl) ?_
      refine K.RW.q rfl (by kernel_rfl) (K.QR.sLen (xs := l) rfl rfl Tryd.underlying9) ?_
      by_cases h_3 : (((l.length : Nat) : Int) : Int) > (1 : Int)
      ·  -- yes
        refine K.RW.q rfl (by kernel_rfl) (K.QR.nice (v := .bool (decide ((((l.length : Nat) : Int) : Int) > (1 : Int)))) (by kernel_rfl) (congrArg Value.bool (decide_eq_true h_3))) ?_
        refine K.RW.qs [.bool true, .string (K.sb l)] (by kernel_rfl) ?_
        refine K.RW.q rfl (by kernel_rfl) (K.QR.sIx (xs := l) (i := 0) rfl rfl rfl Tryd.underlying9 (by omega)) ?_
        by_cases h_4 : ((((l.getD 0 0).toNat : Nat) : Int) : Int) = (48 : Int)
        ·  -- yes
          refine K.RW.q rfl (by kernel_rfl) (K.QR.nice (v := .bool (((((l.getD 0 0).toNat : Nat) : Int) : Int) == (48 : Int))) (by kernel_rfl) (congrArg Value.bool (beq_iff_eq.2 h_4))) ?_
          refine K.RW.qs [.bool true, .bool true] (by kernel_rfl) ?_
          refine K.RW.nil ?_
          refine K.thn_normal ?_
          refine K.KW.ifT rfl ?_
          refine K.KW.seq ?_
          -- 2 :77
          refine K.KW.region ?_
          refine K.RW.qs [.int .i64 (-1)] (by kernel_rfl) ?_
          refine K.RW.nil ?_
          refine K.thn_normal ?_
          refine K.KW.ret ?_
          refine K.thn_ret ?_
          refine ⟨.inr rfl, rfl, (.int .i64 (-1)), K.res1 rfl rfl, [], ?_, hS.pick [0]⟩
          refine ⟨rfl, ?_⟩
          rw [numR_bad]
          first | exact .inl (by assumption) | (refine .inr (.inl ?_); omega) | (refine .inr (.inr (.inl ?_)); exact numR_lead (by omega) (by omega)) | (refine .inr (.inr (.inr (.inl ?_))); exact notD (i := i) (by omega) (by omega)) | (refine .inr (.inr (.inr (.inr ?_))); have h9 := (numI_end hinv (by omega)).1; omega)
        ·  -- no
          refine K.RW.q rfl (by kernel_rfl) (K.QR.nice (v := .bool (((((l.getD 0 0).toNat : Nat) : Int) : Int) == (48 : Int))) (by kernel_rfl) (congrArg Value.bool (beq_eq_false_iff_ne.2 h_4))) ?_
          refine K.RW.qs [.bool false, .bool false] (by kernel_rfl) ?_
          refine K.RW.nil ?_
          refine K.thn_normal ?_
          refine K.KW.ifF rfl ?_
          refine K.KW.skip ?_
          refine K.thn_normal ?_
          refine K.KW.seq ?_
          -- 3 :79
          refine K.KW.region ?_
          refine K.RW.qs [.int .i64 0] (by kernel_rfl) ?_
          refine K.RW.nil ?_
          refine K.thn_normal ?_
          refine K.KW.seq ?_
          refine K.KW.seq ?_
          -- 4 :80
          refine K.KW.region ?_
          refine K.RW.qs [.string (K.sb l)] (by kernel_rfl) ?_
          refine K.RW.q rfl rfl (K.QR.sLen (xs := l) rfl rfl Tryd.underlying9) ?_
          refine K.RW.qs [.int .i64 0] (by kernel_rfl) ?_
          refine K.RW.nil ?_
          refine K.thn_normal ?_
          refine K.KW.block ?_
          refine K.KW.loop (fun m_ F_ w_ => ∃ (i : Nat) (n : Nat), m_ = l.length - i ∧ K.Sl F_ [(0, .string (K.sb l)), (1, .int .i64 most), (5, .int .i64 ((n : Nat) : Int)), (25, .int .i64 ((l.length : Nat) : Int)), (26, .int .i64 ((i : Nat) : Int)), (52, undef)] ∧ i ≤ l.length ∧ NumI l n i ∧ K.Sat w0 [fr] w_) ((fun (i : Nat) (n : Nat) => l.length - i) 0 0) ?_ ?_
          · -- begins
            exact ⟨0, 0, rfl, ⟨by rfl, by rfl, by rfl, by rfl, by rfl, by rfl, trivial⟩, (by omega), (numI0 l), hS.pick [0]⟩
          · -- a round
            clear hS
            intro m_5 F_6 w hI
            obtain ⟨i, n, rfl, sl_7, p_8, hinv, hS⟩ := hI
            rw [← K.Sl.puts sl_7]; clear sl_7
            refine K.KW.seq ?_
            -- 5 :80
            refine K.KW.region ?_
            by_cases h_9 : (((i : Nat) : Int) : Int) < (((l.length : Nat) : Int) : Int)
            ·  -- yes
              refine K.RW.q rfl rfl (K.QR.nice (v := .bool (decide ((((i : Nat) : Int) : Int) < (((l.length : Nat) : Int) : Int)))) (by kernel_rfl) (congrArg Value.bool (decide_eq_true h_9))) ?_
              refine K.RW.nil ?_
              refine K.thn_normal ?_
              refine K.KW.seq ?_
              refine K.KW.ifT rfl ?_
              refine K.KW.skip ?_
              refine K.thn_normal ?_
              refine K.KW.seq ?_
              refine K.KW.block ?_
              refine K.KW.seq ?_
              -- 6 :80
              refine K.KW.region ?_
              refine K.RW.qs [.int .i64 ((i : Nat) : Int), .int .i64 ((i : Nat) : Int)] (by kernel_rfl) ?_
              refine K.RW.nil ?_
              refine K.thn_normal ?_
              refine K.KW.seq ?_
              refine K.KW.seq ?_
              -- 7 :81
              refine K.KW.region ?_
              refine K.RW.qs [.string (K.sb l), .int .i64 ((i : Nat) : Int)] (by kernel_rfl) ?_
              refine K.RW.q rfl rfl (K.QR.sIx (xs := l) (i := i) rfl rfl rfl Tryd.underlying9 (by omega)) ?_
              by_cases h_10 : ((((l.getD i 0).toNat : Nat) : Int) : Int) < (48 : Int)
              ·  -- yes
                refine K.RW.q rfl rfl (K.QR.nice (v := .bool (decide (((((l.getD i 0).toNat : Nat) : Int) : Int) < (48 : Int)))) (by kernel_rfl) (congrArg Value.bool (decide_eq_true h_10))) ?_
                refine K.RW.qs [.bool true] (by kernel_rfl) ?_
                refine K.RW.skip rfl (by kernel_rfl) ?_
                refine K.RW.skip rfl (by kernel_rfl) ?_
                refine K.RW.skip rfl (by kernel_rfl) ?_
                refine K.RW.skip rfl (by kernel_rfl) ?_
                refine K.RW.qs [.bool true] (by kernel_rfl) ?_
                refine K.RW.nil ?_
                refine K.thn_normal ?_
                refine K.KW.ifT rfl ?_
                refine K.KW.seq ?_
                -- 8 :82
                refine K.KW.region ?_
                refine K.RW.qs [.int .i64 (-1)] (by kernel_rfl) ?_
                refine K.RW.nil ?_
                refine K.thn_normal ?_
                refine K.KW.ret ?_
                refine K.thn_ret ?_
                refine K.blk_ret ?_
                refine K.thn_ret ?_
                refine K.thn_ret ?_
                refine K.blk_ret ?_
                refine K.thn_ret ?_
                refine ⟨.inr rfl, rfl, (.int .i64 (-1)), K.res1 rfl rfl, [], ?_, hS.pick [0]⟩
                refine ⟨rfl, ?_⟩
                rw [numR_bad]
                first | exact .inl (by assumption) | (refine .inr (.inl ?_); omega) | (refine .inr (.inr (.inl ?_)); exact numR_lead (by omega) (by omega)) | (refine .inr (.inr (.inr (.inl ?_))); exact notD (i := i) (by omega) (by omega)) | (refine .inr (.inr (.inr (.inr ?_))); have h9 := (numI_end hinv (by omega)).1; omega)
              ·  -- no
                refine K.RW.q rfl rfl (K.QR.nice (v := .bool (decide (((((l.getD i 0).toNat : Nat) : Int) : Int) < (48 : Int)))) (by kernel_rfl) (congrArg Value.bool (decide_eq_false h_10))) ?_
                refine K.RW.qs [.bool false, .string (K.sb l), .int .i64 ((i : Nat) : Int)] (by kernel_rfl) ?_
                refine K.RW.q rfl (by kernel_rfl) (K.QR.sIx (xs := l) (i := i) rfl rfl rfl Tryd.underlying9 (by omega)) ?_
                by_cases h_11 : ((((l.getD i 0).toNat : Nat) : Int) : Int) > (57 : Int)
                ·  -- yes
                  refine K.RW.q rfl (by kernel_rfl) (K.QR.nice (v := .bool (decide (((((l.getD i 0).toNat : Nat) : Int) : Int) > (57 : Int)))) (by kernel_rfl) (congrArg Value.bool (decide_eq_true h_11))) ?_
                  refine K.RW.qs [.bool true] (by kernel_rfl) ?_
                  refine K.RW.nil ?_
                  refine K.thn_normal ?_
                  refine K.KW.ifT rfl ?_
                  refine K.KW.seq ?_
                  -- 8 :82
                  refine K.KW.region ?_
                  refine K.RW.qs [.int .i64 (-1)] (by kernel_rfl) ?_
                  refine K.RW.nil ?_
                  refine K.thn_normal ?_
                  refine K.KW.ret ?_
                  refine K.thn_ret ?_
                  refine K.blk_ret ?_
                  refine K.thn_ret ?_
                  refine K.thn_ret ?_
                  refine K.blk_ret ?_
                  refine K.thn_ret ?_
                  refine ⟨.inr rfl, rfl, (.int .i64 (-1)), K.res1 rfl rfl, [], ?_, hS.pick [0]⟩
                  refine ⟨rfl, ?_⟩
                  rw [numR_bad]
                  first | exact .inl (by assumption) | (refine .inr (.inl ?_); omega) | (refine .inr (.inr (.inl ?_)); exact numR_lead (by omega) (by omega)) | (refine .inr (.inr (.inr (.inl ?_))); exact notD (i := i) (by omega) (by omega)) | (refine .inr (.inr (.inr (.inr ?_))); have h9 := (numI_end hinv (by omega)).1; omega)
                ·  -- no
                  refine K.RW.q rfl (by kernel_rfl) (K.QR.nice (v := .bool (decide (((((l.getD i 0).toNat : Nat) : Int) : Int) > (57 : Int)))) (by kernel_rfl) (congrArg Value.bool (decide_eq_false h_11))) ?_
                  refine K.RW.qs [.bool false] (by kernel_rfl) ?_
                  refine K.RW.nil ?_
                  refine K.thn_normal ?_
                  refine K.KW.ifF rfl ?_
                  refine K.KW.skip ?_
                  refine K.thn_normal ?_
                  -- 9 :84
                  have h12 := numI_lt hinv (by omega) (by omega)
                  have h256 := UInt8.toNat_lt (l.getD i 0)
                  refine K.KW.region ?_
                  refine K.RW.qs [.int .i64 ((n : Nat) : Int)] (by kernel_rfl) ?_
                  refine K.RW.q rfl rfl (K.QR.n64 ((10 : Int) * (((n : Nat) : Int) : Int)) ((10 * n : Nat) : Int) (by kernel_rfl) (by omega)) ?_
                  refine K.RW.qs [.string (K.sb l), .int .i64 ((i : Nat) : Int)] (by kernel_rfl) ?_
                  refine K.RW.q rfl rfl (K.QR.sIx (xs := l) (i := i) rfl rfl rfl Tryd.underlying9 (by omega)) ?_
                  refine K.RW.q rfl rfl (K.QR.turn (v := .int .u8 (IntKind.u8.wrap (((((l.getD i 0).toNat : Nat) : Int) : Int) - (48 : Int)))) (K.QR.k (v := .int .u8 (IntKind.u8.wrap (((((l.getD i 0).toNat : Nat) : Int) : Int) - (48 : Int)))) (by kernel_rfl)) (congrArg (Value.int .u8) (show (IntKind.u8.wrap (((((l.getD i 0).toNat : Nat) : Int) : Int) - (48 : Int)) : Int) = (((((l.getD i 0).toNat - 48) : Nat) : Int) : Int) from (by have := UInt8.toNat_lt (l.getD i 0); have := IntWalk.u8_in (((l.getD i 0).toNat : Int) - 48) (by omega); omega)))) ?_
                  refine K.RW.q rfl rfl (K.QR.nice (v := .int .i64 (IntKind.i64.wrap ((((l.getD i 0).toNat - 48) : Nat) : Int))) (by kernel_rfl) (congrArg (Value.int .i64) (IntWalk.i64_in _ (by omega)))) ?_
                  refine K.RW.q rfl rfl (K.QR.n64 ((((10 * n : Nat) : Int) : Int) + (((((l.getD i 0).toNat - 48) : Nat) : Int) : Int)) ((10 * n + ((l.getD i 0).toNat - 48) : Nat) : Int) (by kernel_rfl) (by omega)) ?_
                  refine K.RW.qs [.int .i64 ((10 * n + ((l.getD i 0).toNat - 48) : Nat) : Int)] (by kernel_rfl) ?_
                  refine K.RW.nil ?_
                  refine K.blk_normal ?_
                  refine K.thn_normal ?_
                  -- 10 :80
                  refine K.KW.region ?_
                  refine K.RW.q rfl rfl (K.QR.n64 ((((i : Nat) : Int) : Int) + (1 : Int)) ((i + 1 : Nat) : Int) (by kernel_rfl) (by omega)) ?_
                  refine K.RW.qs [.int .i64 ((i + 1 : Nat) : Int)] (by kernel_rfl) ?_
                  refine K.RW.nil ?_
                  refine K.thn_normal ?_
                  refine ⟨_, ?_, i + 1, 10 * n + ((l.getD i 0).toNat - 48), rfl, ⟨by rfl, by rfl, by rfl, by rfl, by rfl, by rfl, trivial⟩, (by omega), (numI_next hinv (by omega) (by omega) (by omega)), hS.pick [0]⟩
                  omega
            ·  -- no
              refine K.RW.q rfl rfl (K.QR.nice (v := .bool (decide ((((i : Nat) : Int) : Int) < (((l.length : Nat) : Int) : Int)))) (by kernel_rfl) (congrArg Value.bool (decide_eq_false h_9))) ?_
              refine K.RW.nil ?_
              refine K.thn_normal ?_
              refine K.KW.seq ?_
              refine K.KW.ifF rfl ?_
              refine K.KW.exit ?_
              refine K.thn_exit ?_
              refine K.thn_exit ?_
              refine K.blk_hit ?_
              refine K.thn_normal ?_
              refine K.KW.seq ?_
              refine K.KW.seq ?_
              -- 11 :86
              refine K.KW.region ?_
              refine K.RW.qs [.int .i64 ((n : Nat) : Int), .int .i64 most] (by kernel_rfl) ?_
              by_cases h_12 : (((n : Nat) : Int) : Int) > (most : Int)
              ·  -- yes
                refine K.RW.q rfl rfl (K.QR.nice (v := .bool (decide ((((n : Nat) : Int) : Int) > (most : Int)))) (by kernel_rfl) (congrArg Value.bool (decide_eq_true h_12))) ?_
                refine K.RW.nil ?_
                refine K.thn_normal ?_
                refine K.KW.ifT rfl ?_
                refine K.KW.seq ?_
                -- 12 :87
                refine K.KW.region ?_
                refine K.RW.qs [.int .i64 (-1)] (by kernel_rfl) ?_
                refine K.RW.nil ?_
                refine K.thn_normal ?_
                refine K.KW.ret ?_
                refine K.thn_ret ?_
                refine ⟨.inr rfl, rfl, (.int .i64 (-1)), K.res1 rfl rfl, [], ?_, hS.pick [0]⟩
                refine ⟨rfl, ?_⟩
                rw [numR_bad]
                first | exact .inl (by assumption) | (refine .inr (.inl ?_); omega) | (refine .inr (.inr (.inl ?_)); exact numR_lead (by omega) (by omega)) | (refine .inr (.inr (.inr (.inl ?_))); exact notD (i := i) (by omega) (by omega)) | (refine .inr (.inr (.inr (.inr ?_))); have h9 := (numI_end hinv (by omega)).1; omega)
              ·  -- no
                refine K.RW.q rfl rfl (K.QR.nice (v := .bool (decide ((((n : Nat) : Int) : Int) > (most : Int)))) (by kernel_rfl) (congrArg Value.bool (decide_eq_false h_12))) ?_
                refine K.RW.nil ?_
                refine K.thn_normal ?_
                refine K.KW.ifF rfl ?_
                refine K.KW.skip ?_
                refine K.thn_normal ?_
                refine K.KW.seq ?_
                -- 13 :89
                refine K.KW.region ?_
                refine K.RW.qs [.int .i64 ((n : Nat) : Int), .int .i64 ((n : Nat) : Int)] (by kernel_rfl) ?_
                refine K.RW.nil ?_
                refine K.thn_normal ?_
                refine K.KW.ret ?_
                refine ⟨.inr rfl, rfl, (.int .i64 ((n : Nat) : Int)), K.res1 rfl rfl, [], ?_, hS.pick [0]⟩
                have h9 := numI_end hinv (by omega)
                refine ⟨rfl, ?_⟩
                rw [h9.1, numR_good (by rintro (h | h | h | h | h) <;> first | exact absurd h (by assumption) | omega | exact numR_nlead (by rintro ⟨_, _⟩; omega) h | exact h h9.2)]
      ·  -- no
        refine K.RW.q rfl (by kernel_rfl) (K.QR.nice (v := .bool (decide ((((l.length : Nat) : Int) : Int) > (1 : Int)))) (by kernel_rfl) (congrArg Value.bool (decide_eq_false h_3))) ?_
        refine K.RW.qs [.bool false] (by kernel_rfl) ?_
        refine K.RW.skip rfl (by kernel_rfl) ?_
        refine K.RW.skip rfl (by kernel_rfl) ?_
        refine K.RW.skip rfl (by kernel_rfl) ?_
        refine K.RW.qs [.bool false, .bool false] (by kernel_rfl) ?_
        refine K.RW.nil ?_
        refine K.thn_normal ?_
        refine K.KW.ifF rfl ?_
        refine K.KW.skip ?_
        refine K.thn_normal ?_
        refine K.KW.seq ?_
        -- 3 :79
        refine K.KW.region ?_
        refine K.RW.qs [.int .i64 0] (by kernel_rfl) ?_
        refine K.RW.nil ?_
        refine K.thn_normal ?_
        refine K.KW.seq ?_
        refine K.KW.seq ?_
        -- 4 :80
        refine K.KW.region ?_
        refine K.RW.qs [.string (K.sb l)] (by kernel_rfl) ?_
        refine K.RW.q rfl rfl (K.QR.sLen (xs := l) rfl rfl Tryd.underlying9) ?_
        refine K.RW.qs [.int .i64 0] (by kernel_rfl) ?_
        refine K.RW.nil ?_
        refine K.thn_normal ?_
        refine K.KW.block ?_
        refine K.KW.loop (fun m_ F_ w_ => ∃ (i : Nat) (n : Nat), m_ = l.length - i ∧ K.Sl F_ [(0, .string (K.sb l)), (1, .int .i64 most), (5, .int .i64 ((n : Nat) : Int)), (25, .int .i64 ((l.length : Nat) : Int)), (26, .int .i64 ((i : Nat) : Int)), (52, undef)] ∧ i ≤ l.length ∧ NumI l n i ∧ K.Sat w0 [fr] w_) ((fun (i : Nat) (n : Nat) => l.length - i) 0 0) ?_ ?_
        · -- begins
          exact ⟨0, 0, rfl, ⟨by rfl, by rfl, by rfl, by rfl, by rfl, by rfl, trivial⟩, (by omega), (numI0 l), hS.pick [0]⟩
        · -- a round
          clear hS
          intro m_13 F_14 w hI
          obtain ⟨i, n, rfl, sl_15, p_16, hinv, hS⟩ := hI
          rw [← K.Sl.puts sl_15]; clear sl_15
          refine K.KW.seq ?_
          -- 5 :80
          refine K.KW.region ?_
          by_cases h_17 : (((i : Nat) : Int) : Int) < (((l.length : Nat) : Int) : Int)
          ·  -- yes
            refine K.RW.q rfl rfl (K.QR.nice (v := .bool (decide ((((i : Nat) : Int) : Int) < (((l.length : Nat) : Int) : Int)))) (by kernel_rfl) (congrArg Value.bool (decide_eq_true h_17))) ?_
            refine K.RW.nil ?_
            refine K.thn_normal ?_
            refine K.KW.seq ?_
            refine K.KW.ifT rfl ?_
            refine K.KW.skip ?_
            refine K.thn_normal ?_
            refine K.KW.seq ?_
            refine K.KW.block ?_
            refine K.KW.seq ?_
            -- 6 :80
            refine K.KW.region ?_
            refine K.RW.qs [.int .i64 ((i : Nat) : Int), .int .i64 ((i : Nat) : Int)] (by kernel_rfl) ?_
            refine K.RW.nil ?_
            refine K.thn_normal ?_
            refine K.KW.seq ?_
            refine K.KW.seq ?_
            -- 7 :81
            refine K.KW.region ?_
            refine K.RW.qs [.string (K.sb l), .int .i64 ((i : Nat) : Int)] (by kernel_rfl) ?_
            refine K.RW.q rfl rfl (K.QR.sIx (xs := l) (i := i) rfl rfl rfl Tryd.underlying9 (by omega)) ?_
            by_cases h_18 : ((((l.getD i 0).toNat : Nat) : Int) : Int) < (48 : Int)
            ·  -- yes
              refine K.RW.q rfl rfl (K.QR.nice (v := .bool (decide (((((l.getD i 0).toNat : Nat) : Int) : Int) < (48 : Int)))) (by kernel_rfl) (congrArg Value.bool (decide_eq_true h_18))) ?_
              refine K.RW.qs [.bool true] (by kernel_rfl) ?_
              refine K.RW.skip rfl (by kernel_rfl) ?_
              refine K.RW.skip rfl (by kernel_rfl) ?_
              refine K.RW.skip rfl (by kernel_rfl) ?_
              refine K.RW.skip rfl (by kernel_rfl) ?_
              refine K.RW.qs [.bool true] (by kernel_rfl) ?_
              refine K.RW.nil ?_
              refine K.thn_normal ?_
              refine K.KW.ifT rfl ?_
              refine K.KW.seq ?_
              -- 8 :82
              refine K.KW.region ?_
              refine K.RW.qs [.int .i64 (-1)] (by kernel_rfl) ?_
              refine K.RW.nil ?_
              refine K.thn_normal ?_
              refine K.KW.ret ?_
              refine K.thn_ret ?_
              refine K.blk_ret ?_
              refine K.thn_ret ?_
              refine K.thn_ret ?_
              refine K.blk_ret ?_
              refine K.thn_ret ?_
              refine ⟨.inr rfl, rfl, (.int .i64 (-1)), K.res1 rfl rfl, [], ?_, hS.pick [0]⟩
              refine ⟨rfl, ?_⟩
              rw [numR_bad]
              first | exact .inl (by assumption) | (refine .inr (.inl ?_); omega) | (refine .inr (.inr (.inl ?_)); exact numR_lead (by omega) (by omega)) | (refine .inr (.inr (.inr (.inl ?_))); exact notD (i := i) (by omega) (by omega)) | (refine .inr (.inr (.inr (.inr ?_))); have h9 := (numI_end hinv (by omega)).1; omega)
            ·  -- no
              refine K.RW.q rfl rfl (K.QR.nice (v := .bool (decide (((((l.getD i 0).toNat : Nat) : Int) : Int) < (48 : Int)))) (by kernel_rfl) (congrArg Value.bool (decide_eq_false h_18))) ?_
              refine K.RW.qs [.bool false, .string (K.sb l), .int .i64 ((i : Nat) : Int)] (by kernel_rfl) ?_
              refine K.RW.q rfl (by kernel_rfl) (K.QR.sIx (xs := l) (i := i) rfl rfl rfl Tryd.underlying9 (by omega)) ?_
              by_cases h_19 : ((((l.getD i 0).toNat : Nat) : Int) : Int) > (57 : Int)
              ·  -- yes
                refine K.RW.q rfl (by kernel_rfl) (K.QR.nice (v := .bool (decide (((((l.getD i 0).toNat : Nat) : Int) : Int) > (57 : Int)))) (by kernel_rfl) (congrArg Value.bool (decide_eq_true h_19))) ?_
                refine K.RW.qs [.bool true] (by kernel_rfl) ?_
                refine K.RW.nil ?_
                refine K.thn_normal ?_
                refine K.KW.ifT rfl ?_
                refine K.KW.seq ?_
                -- 8 :82
                refine K.KW.region ?_
                refine K.RW.qs [.int .i64 (-1)] (by kernel_rfl) ?_
                refine K.RW.nil ?_
                refine K.thn_normal ?_
                refine K.KW.ret ?_
                refine K.thn_ret ?_
                refine K.blk_ret ?_
                refine K.thn_ret ?_
                refine K.thn_ret ?_
                refine K.blk_ret ?_
                refine K.thn_ret ?_
                refine ⟨.inr rfl, rfl, (.int .i64 (-1)), K.res1 rfl rfl, [], ?_, hS.pick [0]⟩
                refine ⟨rfl, ?_⟩
                rw [numR_bad]
                first | exact .inl (by assumption) | (refine .inr (.inl ?_); omega) | (refine .inr (.inr (.inl ?_)); exact numR_lead (by omega) (by omega)) | (refine .inr (.inr (.inr (.inl ?_))); exact notD (i := i) (by omega) (by omega)) | (refine .inr (.inr (.inr (.inr ?_))); have h9 := (numI_end hinv (by omega)).1; omega)
              ·  -- no
                refine K.RW.q rfl (by kernel_rfl) (K.QR.nice (v := .bool (decide (((((l.getD i 0).toNat : Nat) : Int) : Int) > (57 : Int)))) (by kernel_rfl) (congrArg Value.bool (decide_eq_false h_19))) ?_
                refine K.RW.qs [.bool false] (by kernel_rfl) ?_
                refine K.RW.nil ?_
                refine K.thn_normal ?_
                refine K.KW.ifF rfl ?_
                refine K.KW.skip ?_
                refine K.thn_normal ?_
                -- 9 :84
                have h12 := numI_lt hinv (by omega) (by omega)
                have h256 := UInt8.toNat_lt (l.getD i 0)
                refine K.KW.region ?_
                refine K.RW.qs [.int .i64 ((n : Nat) : Int)] (by kernel_rfl) ?_
                refine K.RW.q rfl rfl (K.QR.n64 ((10 : Int) * (((n : Nat) : Int) : Int)) ((10 * n : Nat) : Int) (by kernel_rfl) (by omega)) ?_
                refine K.RW.qs [.string (K.sb l), .int .i64 ((i : Nat) : Int)] (by kernel_rfl) ?_
                refine K.RW.q rfl rfl (K.QR.sIx (xs := l) (i := i) rfl rfl rfl Tryd.underlying9 (by omega)) ?_
                refine K.RW.q rfl rfl (K.QR.turn (v := .int .u8 (IntKind.u8.wrap (((((l.getD i 0).toNat : Nat) : Int) : Int) - (48 : Int)))) (K.QR.k (v := .int .u8 (IntKind.u8.wrap (((((l.getD i 0).toNat : Nat) : Int) : Int) - (48 : Int)))) (by kernel_rfl)) (congrArg (Value.int .u8) (show (IntKind.u8.wrap (((((l.getD i 0).toNat : Nat) : Int) : Int) - (48 : Int)) : Int) = (((((l.getD i 0).toNat - 48) : Nat) : Int) : Int) from (by have := UInt8.toNat_lt (l.getD i 0); have := IntWalk.u8_in (((l.getD i 0).toNat : Int) - 48) (by omega); omega)))) ?_
                refine K.RW.q rfl rfl (K.QR.nice (v := .int .i64 (IntKind.i64.wrap ((((l.getD i 0).toNat - 48) : Nat) : Int))) (by kernel_rfl) (congrArg (Value.int .i64) (IntWalk.i64_in _ (by omega)))) ?_
                refine K.RW.q rfl rfl (K.QR.n64 ((((10 * n : Nat) : Int) : Int) + (((((l.getD i 0).toNat - 48) : Nat) : Int) : Int)) ((10 * n + ((l.getD i 0).toNat - 48) : Nat) : Int) (by kernel_rfl) (by omega)) ?_
                refine K.RW.qs [.int .i64 ((10 * n + ((l.getD i 0).toNat - 48) : Nat) : Int)] (by kernel_rfl) ?_
                refine K.RW.nil ?_
                refine K.blk_normal ?_
                refine K.thn_normal ?_
                -- 10 :80
                refine K.KW.region ?_
                refine K.RW.q rfl rfl (K.QR.n64 ((((i : Nat) : Int) : Int) + (1 : Int)) ((i + 1 : Nat) : Int) (by kernel_rfl) (by omega)) ?_
                refine K.RW.qs [.int .i64 ((i + 1 : Nat) : Int)] (by kernel_rfl) ?_
                refine K.RW.nil ?_
                refine K.thn_normal ?_
                refine ⟨_, ?_, i + 1, 10 * n + ((l.getD i 0).toNat - 48), rfl, ⟨by rfl, by rfl, by rfl, by rfl, by rfl, by rfl, trivial⟩, (by omega), (numI_next hinv (by omega) (by omega) (by omega)), hS.pick [0]⟩
                omega
          ·  -- no
            refine K.RW.q rfl rfl (K.QR.nice (v := .bool (decide ((((i : Nat) : Int) : Int) < (((l.length : Nat) : Int) : Int)))) (by kernel_rfl) (congrArg Value.bool (decide_eq_false h_17))) ?_
            refine K.RW.nil ?_
            refine K.thn_normal ?_
            refine K.KW.seq ?_
            refine K.KW.ifF rfl ?_
            refine K.KW.exit ?_
            refine K.thn_exit ?_
            refine K.thn_exit ?_
            refine K.blk_hit ?_
            refine K.thn_normal ?_
            refine K.KW.seq ?_
            refine K.KW.seq ?_
            -- 11 :86
            refine K.KW.region ?_
            refine K.RW.qs [.int .i64 ((n : Nat) : Int), .int .i64 most] (by kernel_rfl) ?_
            by_cases h_20 : (((n : Nat) : Int) : Int) > (most : Int)
            ·  -- yes
              refine K.RW.q rfl rfl (K.QR.nice (v := .bool (decide ((((n : Nat) : Int) : Int) > (most : Int)))) (by kernel_rfl) (congrArg Value.bool (decide_eq_true h_20))) ?_
              refine K.RW.nil ?_
              refine K.thn_normal ?_
              refine K.KW.ifT rfl ?_
              refine K.KW.seq ?_
              -- 12 :87
              refine K.KW.region ?_
              refine K.RW.qs [.int .i64 (-1)] (by kernel_rfl) ?_
              refine K.RW.nil ?_
              refine K.thn_normal ?_
              refine K.KW.ret ?_
              refine K.thn_ret ?_
              refine ⟨.inr rfl, rfl, (.int .i64 (-1)), K.res1 rfl rfl, [], ?_, hS.pick [0]⟩
              refine ⟨rfl, ?_⟩
              rw [numR_bad]
              first | exact .inl (by assumption) | (refine .inr (.inl ?_); omega) | (refine .inr (.inr (.inl ?_)); exact numR_lead (by omega) (by omega)) | (refine .inr (.inr (.inr (.inl ?_))); exact notD (i := i) (by omega) (by omega)) | (refine .inr (.inr (.inr (.inr ?_))); have h9 := (numI_end hinv (by omega)).1; omega)
            ·  -- no
              refine K.RW.q rfl rfl (K.QR.nice (v := .bool (decide ((((n : Nat) : Int) : Int) > (most : Int)))) (by kernel_rfl) (congrArg Value.bool (decide_eq_false h_20))) ?_
              refine K.RW.nil ?_
              refine K.thn_normal ?_
              refine K.KW.ifF rfl ?_
              refine K.KW.skip ?_
              refine K.thn_normal ?_
              refine K.KW.seq ?_
              -- 13 :89
              refine K.KW.region ?_
              refine K.RW.qs [.int .i64 ((n : Nat) : Int), .int .i64 ((n : Nat) : Int)] (by kernel_rfl) ?_
              refine K.RW.nil ?_
              refine K.thn_normal ?_
              refine K.KW.ret ?_
              refine ⟨.inr rfl, rfl, (.int .i64 ((n : Nat) : Int)), K.res1 rfl rfl, [], ?_, hS.pick [0]⟩
              have h9 := numI_end hinv (by omega)
              refine ⟨rfl, ?_⟩
              rw [h9.1, numR_good (by rintro (h | h | h | h | h) <;> first | exact absurd h (by assumption) | omega | exact numR_nlead (by rintro ⟨_, _⟩; omega) h | exact h h9.2)]
set_option maxHeartbeats 1000000 in
set_option maxRecDepth 100000 in
theorem kind_ok (w0 : World) (k : Int) :
    K.GC Tryd.prog w0 64 #[.int .i64 k] [] (fun v post => post = [] ∧ (((1 ≤ k ∧ k ≤ 8) ∧ v = .bool true) ∨ (¬ ((1 ≤ k ∧ k ≤ 8)) ∧ v = .bool false))) := by
  refine K.GC.mk (n := 9) Tryd.func64 rfl rfl [.int .i64 k] rfl rfl ?_
  intro fr w hS
  replace hS : K.Sat w0 [fr] w := hS
  refine K.KW.seq ?_
  -- 0 :40
  refine K.KW.region ?_
  refine K.RW.qs [.bool false] (by kernel_rfl) ?_
  refine K.RW.nil ?_
  refine K.thn_normal ?_
  refine K.KW.seq ?_
  -- 1 :40
  refine K.KW.region ?_
  refine K.RW.qs [.int .i64 k] (by kernel_rfl) ?_
  by_cases h_1 : (k : Int) ≥ (1 : Int)
  ·  -- yes
    refine K.RW.q rfl rfl (K.QR.nice (v := .bool (decide ((k : Int) ≥ (1 : Int)))) (by kernel_rfl) (congrArg Value.bool (decide_eq_true h_1))) ?_
    refine K.RW.qs [.bool true, .int .i64 k] (by kernel_rfl) ?_
    by_cases h_2 : (k : Int) ≤ (8 : Int)
    ·  -- yes
      refine K.RW.q rfl (by kernel_rfl) (K.QR.nice (v := .bool (decide ((k : Int) ≤ (8 : Int)))) (by kernel_rfl) (congrArg Value.bool (decide_eq_true h_2))) ?_
      refine K.RW.qs [.bool true, .bool true] (by kernel_rfl) ?_
      refine K.RW.nil ?_
      refine K.thn_normal ?_
      refine K.KW.ret ?_
      refine ⟨.inr rfl, rfl, (.bool true), K.res1 rfl rfl, [], ?_, hS.pick [0]⟩
      exact ⟨rfl, .inl ⟨by omega, rfl⟩⟩
    ·  -- no
      refine K.RW.q rfl (by kernel_rfl) (K.QR.nice (v := .bool (decide ((k : Int) ≤ (8 : Int)))) (by kernel_rfl) (congrArg Value.bool (decide_eq_false h_2))) ?_
      refine K.RW.qs [.bool false, .bool false] (by kernel_rfl) ?_
      refine K.RW.nil ?_
      refine K.thn_normal ?_
      refine K.KW.ret ?_
      refine ⟨.inr rfl, rfl, (.bool false), K.res1 rfl rfl, [], ?_, hS.pick [0]⟩
      exact ⟨rfl, .inr ⟨by omega, rfl⟩⟩
  ·  -- no
    refine K.RW.q rfl rfl (K.QR.nice (v := .bool (decide ((k : Int) ≥ (1 : Int)))) (by kernel_rfl) (congrArg Value.bool (decide_eq_false h_1))) ?_
    refine K.RW.qs [.bool false] (by kernel_rfl) ?_
    refine K.RW.skip rfl (by kernel_rfl) ?_
    refine K.RW.skip rfl (by kernel_rfl) ?_
    refine K.RW.qs [.bool false, .bool false] (by kernel_rfl) ?_
    refine K.RW.nil ?_
    refine K.thn_normal ?_
    refine K.KW.ret ?_
    refine ⟨.inr rfl, rfl, (.bool false), K.res1 rfl rfl, [], ?_, hS.pick [0]⟩
    exact ⟨rfl, .inr ⟨by omega, rfl⟩⟩
set_option maxHeartbeats 1000000 in
set_option maxRecDepth 100000 in
theorem rtime_ok (w0 : World) (k : Int) :
    K.GC Tryd.prog w0 76 #[.int .i64 k] [] (fun v post => post = [] ∧ (((-1 ≤ k ∧ k ≤ 1099511627776) ∧ v = .bool true) ∨ (¬ ((-1 ≤ k ∧ k ≤ 1099511627776)) ∧ v = .bool false))) := by
  refine K.GC.mk (n := 9) Tryd.func76 rfl rfl [.int .i64 k] rfl rfl ?_
  intro fr w hS
  replace hS : K.Sat w0 [fr] w := hS
  refine K.KW.seq ?_
  -- 0 :34
  refine K.KW.region ?_
  refine K.RW.qs [.bool false] (by kernel_rfl) ?_
  refine K.RW.nil ?_
  refine K.thn_normal ?_
  refine K.KW.seq ?_
  -- 1 :34
  refine K.KW.region ?_
  refine K.RW.qs [.int .i64 k] (by kernel_rfl) ?_
  by_cases h_1 : (k : Int) ≥ ((-1) : Int)
  ·  -- yes
    refine K.RW.q rfl rfl (K.QR.nice (v := .bool (decide ((k : Int) ≥ ((-1) : Int)))) (by kernel_rfl) (congrArg Value.bool (decide_eq_true h_1))) ?_
    refine K.RW.qs [.bool true, .int .i64 k] (by kernel_rfl) ?_
    by_cases h_2 : (k : Int) ≤ (1099511627776 : Int)
    ·  -- yes
      refine K.RW.q rfl (by kernel_rfl) (K.QR.nice (v := .bool (decide ((k : Int) ≤ (1099511627776 : Int)))) (by kernel_rfl) (congrArg Value.bool (decide_eq_true h_2))) ?_
      refine K.RW.qs [.bool true, .bool true] (by kernel_rfl) ?_
      refine K.RW.nil ?_
      refine K.thn_normal ?_
      refine K.KW.ret ?_
      refine ⟨.inr rfl, rfl, (.bool true), K.res1 rfl rfl, [], ?_, hS.pick [0]⟩
      exact ⟨rfl, .inl ⟨by omega, rfl⟩⟩
    ·  -- no
      refine K.RW.q rfl (by kernel_rfl) (K.QR.nice (v := .bool (decide ((k : Int) ≤ (1099511627776 : Int)))) (by kernel_rfl) (congrArg Value.bool (decide_eq_false h_2))) ?_
      refine K.RW.qs [.bool false, .bool false] (by kernel_rfl) ?_
      refine K.RW.nil ?_
      refine K.thn_normal ?_
      refine K.KW.ret ?_
      refine ⟨.inr rfl, rfl, (.bool false), K.res1 rfl rfl, [], ?_, hS.pick [0]⟩
      exact ⟨rfl, .inr ⟨by omega, rfl⟩⟩
  ·  -- no
    refine K.RW.q rfl rfl (K.QR.nice (v := .bool (decide ((k : Int) ≥ ((-1) : Int)))) (by kernel_rfl) (congrArg Value.bool (decide_eq_false h_1))) ?_
    refine K.RW.qs [.bool false] (by kernel_rfl) ?_
    refine K.RW.skip rfl (by kernel_rfl) ?_
    refine K.RW.skip rfl (by kernel_rfl) ?_
    refine K.RW.qs [.bool false, .bool false] (by kernel_rfl) ?_
    refine K.RW.nil ?_
    refine K.thn_normal ?_
    refine K.KW.ret ?_
    refine ⟨.inr rfl, rfl, (.bool false), K.res1 rfl rfl, [], ?_, hS.pick [0]⟩
    exact ⟨rfl, .inr ⟨by omega, rfl⟩⟩
end Go.Proofs.YtnehocjmgnhhhaaDoor
