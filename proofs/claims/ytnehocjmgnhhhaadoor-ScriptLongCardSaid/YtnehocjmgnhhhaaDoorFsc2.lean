import Derived.Test.YtnehocjmgnhhhaaDoorFsc
/- Scripts: the code's digits, names, numbers. -/
namespace Go.Proofs.YtnehocjmgnhhhaaDoor
open Go.RowKit
set_option linter.unusedVariables false
attribute [local irreducible] K.KW K.RW K.DW K.OW K.QR K.KC
set_option maxHeartbeats 1000000 in
set_option maxRecDepth 100000 in
theorem sdigits_step (w0 : World) (n : Nat) (hn : n ≤ 9223372036854775807) (IH : ∀ m : Nat, m < n → K.GC Tryd.prog w0 86 #[.int .i64 ((m : Nat) : Int)] [] (fun v post => post = [] ∧ v = .string (K.sb (dg m)))) :
    K.GC Tryd.prog w0 86 #[.int .i64 ((n : Nat) : Int)] [] (fun v post => post = [] ∧ v = .string (K.sb (dg n))) := by
  refine K.GC.mk (n := 17) Tryd.func86 rfl rfl [.int .i64 ((n : Nat) : Int)] rfl rfl ?_
  intro fr w hS
  replace hS : K.Sat w0 [fr] w := hS
  refine K.KW.seq ?_
  -- 0 :64
  refine K.KW.region ?_
  refine K.RW.qs [.string (K.sb [])] (by kernel_rfl) ?_
  refine K.RW.nil ?_
  refine K.thn_normal ?_
  refine K.KW.seq ?_
  refine K.KW.seq ?_
  -- 1 :65
  refine K.KW.region ?_
  refine K.RW.qs [.int .i64 ((n : Nat) : Int)] (by kernel_rfl) ?_
  by_cases h_1 : (((n : Nat) : Int) : Int) < (10 : Int)
  ·  -- yes
    refine K.RW.q rfl rfl (K.QR.nice (v := .bool (decide ((((n : Nat) : Int) : Int) < (10 : Int)))) (by kernel_rfl) (congrArg Value.bool (decide_eq_true h_1))) ?_
    refine K.RW.nil ?_
    refine K.thn_normal ?_
    refine K.KW.ifT rfl ?_
    refine K.KW.seq ?_
    -- 2 :66
    refine K.KW.region ?_
    refine K.RW.qs [.int .i64 ((n : Nat) : Int)] (by kernel_rfl) ?_
    refine K.RW.q rfl rfl (K.QR.n64 ((48 : Int) + (((n : Nat) : Int) : Int)) ((48 + n : Nat) : Int) (by kernel_rfl) (by omega)) ?_
    refine K.RW.q rfl rfl (K.QR.nice (v := .int .u8 (IntKind.u8.wrap ((48 + n : Nat) : Int))) (by kernel_rfl) (congrArg (Value.int .u8) (IntWalk.u8_in _ (by omega)))) ?_
    refine K.RW.l rfl (K.OW.gbs [(0, .int .u8 ((48 + n : Nat) : Int))] [.int .u8 ((48 + n : Nat) : Int)] hS (fun w => K.bs_run (P := Tryd.prog) w 66 5 1 _ _ Tryd.underlying66 (by kernel_rfl)) ?_)
    clear hS; intro w r_2 g_3 hg_4 hS
    refine K.RW.q rfl rfl (K.QR.sOf (xs := [(((48 + n : Nat) : Int) : Int)]) (ys := [UInt8.ofNat (48 + n)]) rfl rfl Tryd.underlying66 Tryd.underlying5 Tryd.underlying9 rfl (K.Blk.rowE (c := cU8) 0 (L := [(((48 + n : Nat) : Int) : Int)]) (hS.blk 0 rfl hg_4) (fun _ => rfl) rfl) (rfl)) ?_
    refine K.RW.qs [.string (K.sb [UInt8.ofNat (48 + n)])] (by kernel_rfl) ?_
    refine K.RW.nil ?_
    refine K.thn_normal ?_
    refine K.KW.ret ?_
    refine K.thn_ret ?_
    refine ⟨.inr rfl, rfl, (.string (K.sb [UInt8.ofNat (48 + n)])), K.res1 rfl rfl, [], ?_, hS.pick [1]⟩
    exact ⟨rfl, by rw [dg_lt (n := n) (by omega)]⟩
  ·  -- no
    refine K.RW.q rfl rfl (K.QR.nice (v := .bool (decide ((((n : Nat) : Int) : Int) < (10 : Int)))) (by kernel_rfl) (congrArg Value.bool (decide_eq_false h_1))) ?_
    refine K.RW.nil ?_
    refine K.thn_normal ?_
    refine K.KW.ifF rfl ?_
    refine K.KW.skip ?_
    refine K.thn_normal ?_
    refine K.KW.seq ?_
    -- 3 :68
    refine K.KW.region ?_
    refine K.RW.qs [.int .i64 ((n : Nat) : Int)] (by kernel_rfl) ?_
    refine K.RW.q rfl rfl (K.QR.quoi64 (((n : Nat) : Int) : Int) 10 ((n / 10 : Nat) : Int) (by kernel_rfl) (by omega) (by omega)) ?_
    refine K.RW.l rfl (K.OW.gcall hS [] [0] [.int .i64 ((n / 10 : Nat) : Int)] (IH (n / 10) (by omega)) ?_)
    clear hS; rintro _ _ w ⟨rfl, rfl⟩ hS
    replace hS : K.Sat w0 [fr] w := hS
    refine K.RW.qs [.int .i64 ((n : Nat) : Int)] (by kernel_rfl) ?_
    refine K.RW.q rfl rfl (K.QR.remi64 (((n : Nat) : Int) : Int) 10 ((n % 10 : Nat) : Int) (by kernel_rfl) (by omega) (by omega)) ?_
    refine K.RW.l rfl (K.OW.gcall hS [] [0] [.int .i64 ((n % 10 : Nat) : Int)] (IH (n % 10) (by omega)) ?_)
    clear hS; rintro _ _ w ⟨rfl, rfl⟩ hS
    replace hS : K.Sat w0 [fr] w := hS
    refine K.RW.q rfl rfl (K.QR.sAdd (xs := (dg (n / 10))) (ys := (dg (n % 10))) rfl rfl rfl (by have h1 := dg_len20 (n := n / 10) (by omega); have h2 := dg_len20 (n := n % 10) (by omega); (try simp only [List.length_append, List.length_cons, List.length_nil] at *); omega)) ?_
    refine K.RW.qs [.string (K.sb ((dg (n / 10)) ++ (dg (n % 10))))] (by kernel_rfl) ?_
    refine K.RW.nil ?_
    refine K.thn_normal ?_
    refine K.KW.ret ?_
    refine ⟨.inr rfl, rfl, (.string (K.sb ((dg (n / 10)) ++ (dg (n % 10))))), K.res1 rfl rfl, [], ?_, hS.pick [0]⟩
    exact ⟨rfl, by rw [dg_ge (n := n) (by omega), dg_lt (n := n % 10) (by omega)]⟩
theorem sdigits_nat (w0 : World) (n : Nat) : n ≤ 9223372036854775807 → K.GC Tryd.prog w0 86 #[.int .i64 ((n : Nat) : Int)] [] (fun v post => post = [] ∧ v = .string (K.sb (dg n))) :=
  Nat.strongRecOn n fun n ih hn => sdigits_step w0 n hn fun m hm => ih m hm (by omega)
theorem sdigitsI_ok (w0 : World) (n : Int) (h0 : 0 ≤ n) (h1 : n ≤ 9223372036854775807) : K.GC Tryd.prog w0 86 #[.int .i64 n] [] (fun v post => post = [] ∧ v = .string (K.sb (dg n.toNat))) := by
  obtain ⟨m, rfl⟩ : ∃ m : Nat, n = m := ⟨n.toNat, by omega⟩
  exact sdigits_nat w0 m (by omega)
set_option maxHeartbeats 1000000 in
set_option maxRecDepth 100000 in
theorem snames_ok (w0 : World)  :
    K.GC Tryd.prog w0 87 #[] [] (fun v post => ∃ r g, post = [g] ∧ v = .slice (some ⟨r, 0, none⟩) 8 8 ∧ g = [K.pt r 9 (opNm.tail.flatMap K.cStr)]) := by
  refine K.GC.mk (n := 2) Tryd.func87 rfl rfl [] rfl rfl ?_
  intro fr w hS
  replace hS : K.Sat w0 [fr] w := hS
  refine K.KW.seq ?_
  -- 0 :26
  refine K.KW.region ?_
  refine K.RW.qs [.slice none 0 0] (by kernel_rfl) ?_
  refine K.RW.nil ?_
  refine K.thn_normal ?_
  refine K.KW.seq ?_
  -- 1 :27
  refine K.KW.region ?_
  refine K.RW.l rfl (K.OW.gbs [(0, .string (K.sb [101, 110, 113])), (1, .string (K.sb [100, 101, 113])), (2, .string (K.sb [97, 100, 100])), (3, .string (K.sb [100, 101, 108])), (4, .string (K.sb [104, 97, 115])), (5, .string (K.sb [112, 117, 116])), (6, .string (K.sb [103, 101, 116])), (7, .string (K.sb [99, 117, 116]))] [.string (K.sb [101, 110, 113]), .string (K.sb [100, 101, 113]), .string (K.sb [97, 100, 100]), .string (K.sb [100, 101, 108]), .string (K.sb [104, 97, 115]), .string (K.sb [112, 117, 116]), .string (K.sb [103, 101, 116]), .string (K.sb [99, 117, 116])] hS (fun w => K.bs_run (P := Tryd.prog) w 68 9 8 _ _ Tryd.underlying68 (by kernel_rfl)) ?_)
  clear hS; intro w r_1 g_2 hg_3 hS
  refine K.RW.qs [.slice (some ⟨r_1, 0, none⟩) 8 8] (by kernel_rfl) ?_
  refine K.RW.nil ?_
  refine K.thn_normal ?_
  refine K.KW.ret ?_
  refine ⟨.inr rfl, rfl, (.slice (some ⟨r_1, 0, none⟩) 8 8), K.res1 rfl rfl, [g_2], ?_, hS.pick [0, 1]⟩
  exact ⟨_, _, rfl, rfl, hg_3⟩
set_option maxHeartbeats 1000000 in
set_option maxRecDepth 100000 in
theorem snumber_ok (w0 : World) (l : List UInt8) (least most : Int) (hl : l.length ≤ 1000000) :
    K.GC Tryd.prog w0 98 #[.string (K.sb l), .int .i64 least, .int .i64 most] [] (fun v post => post = [] ∧ v = .tuple #[.int .i64 (numW l least most).1, .int .i64 (numW l least most).2]) := by
  refine K.GC.mk (n := 62) Tryd.func98 rfl rfl [.string (K.sb l), .int .i64 least, .int .i64 most] rfl rfl ?_
  intro fr w hS
  replace hS : K.Sat w0 [fr] w := hS
  refine K.KW.seq ?_
  -- 0 :44
  refine K.KW.region ?_
  refine K.RW.qs [.int .i64 0, .int .i64 0] (by kernel_rfl) ?_
  refine K.RW.nil ?_
  refine K.thn_normal ?_
  refine K.KW.seq ?_
  refine K.KW.seq ?_
  -- 1 :45
  refine K.KW.region ?_
  refine K.RW.qs [.string (K.sb l)] (by kernel_rfl) ?_
  by_cases h_1 : l = ([] : List UInt8)
  ·  -- yes
    refine K.RW.q rfl rfl (K.QR.sEq (xs := l) (ys := []) true rfl rfl rfl (K.deq_t h_1)) ?_
    refine K.RW.qs [.bool true] (by kernel_rfl) ?_
    refine K.RW.skip rfl (by kernel_rfl) ?_
    refine K.RW.skip rfl (by kernel_rfl) ?_
    refine K.RW.skip rfl (by kernel_rfl) ?_
    refine K.RW.skip rfl (by kernel_rfl) ?_
    refine K.RW.skip rfl (by kernel_rfl) ?_
    refine K.RW.skip rfl (by kernel_rfl) ?_
    refine K.RW.skip rfl (by kernel_rfl) ?_
    refine K.RW.skip rfl (by kernel_rfl) ?_
    refine K.RW.qs [.bool true] (by kernel_rfl) ?_
    refine K.RW.nil ?_
    refine K.thn_normal ?_
    refine K.KW.ifT rfl ?_
    refine K.KW.seq ?_
    -- 2 :46
    refine K.KW.region ?_
    refine K.RW.qs [.int .i64 0, .int .i64 3] (by kernel_rfl) ?_
    refine K.RW.nil ?_
    refine K.thn_normal ?_
    refine K.KW.ret ?_
    refine K.thn_ret ?_
    refine ⟨.inr rfl, rfl, (.tuple #[.int .i64 0, .int .i64 3]), K.res2 rfl rfl rfl, [], ?_, hS.pick [0]⟩
    refine ⟨rfl, ?_⟩
    rw [numW_form]
    first | exact .inl (by assumption) | exact .inr (.inl (numR_lead (by omega) (by omega))) | exact .inr (.inr (notD (i := i) (by omega) (by omega)))
  ·  -- no
    refine K.RW.q rfl rfl (K.QR.sEq (xs := l) (ys := []) false rfl rfl rfl (K.deq_f h_1)) ?_
    refine K.RW.qs [.bool false, .string (K.sb l)] (by kernel_rfl) ?_
    refine K.RW.q rfl (by kernel_rfl) (K.QR.sLen (xs := l) rfl rfl Tryd.underlying9) ?_
    by_cases h_2 : (((l.length : Nat) : Int) : Int) > (1 : Int)
    ·  -- yes
      refine K.RW.q rfl (by kernel_rfl) (K.QR.nice (v := .bool (decide ((((l.length : Nat) : Int) : Int) > (1 : Int)))) (by kernel_rfl) (congrArg Value.bool (decide_eq_true h_2))) ?_
      refine K.RW.qs [.bool true, .string (K.sb l)] (by kernel_rfl) ?_
      refine K.RW.q rfl (by kernel_rfl) (K.QR.sIx (xs := l) (i := 0) rfl rfl rfl Tryd.underlying9 (by omega)) ?_
      by_cases h_3 : ((((l.getD 0 0).toNat : Nat) : Int) : Int) = (48 : Int)
      ·  -- yes
        refine K.RW.q rfl (by kernel_rfl) (K.QR.nice (v := .bool (((((l.getD 0 0).toNat : Nat) : Int) : Int) == (48 : Int))) (by kernel_rfl) (congrArg Value.bool (beq_iff_eq.2 h_3))) ?_
        refine K.RW.qs [.bool true, .bool true] (by kernel_rfl) ?_
        refine K.RW.nil ?_
        refine K.thn_normal ?_
        refine K.KW.ifT rfl ?_
        refine K.KW.seq ?_
        -- 2 :46
        refine K.KW.region ?_
        refine K.RW.qs [.int .i64 0, .int .i64 3] (by kernel_rfl) ?_
        refine K.RW.nil ?_
        refine K.thn_normal ?_
        refine K.KW.ret ?_
        refine K.thn_ret ?_
        refine ⟨.inr rfl, rfl, (.tuple #[.int .i64 0, .int .i64 3]), K.res2 rfl rfl rfl, [], ?_, hS.pick [0]⟩
        refine ⟨rfl, ?_⟩
        rw [numW_form]
        first | exact .inl (by assumption) | exact .inr (.inl (numR_lead (by omega) (by omega))) | exact .inr (.inr (notD (i := i) (by omega) (by omega)))
      ·  -- no
        refine K.RW.q rfl (by kernel_rfl) (K.QR.nice (v := .bool (((((l.getD 0 0).toNat : Nat) : Int) : Int) == (48 : Int))) (by kernel_rfl) (congrArg Value.bool (beq_eq_false_iff_ne.2 h_3))) ?_
        refine K.RW.qs [.bool false, .bool false] (by kernel_rfl) ?_
        refine K.RW.nil ?_
        refine K.thn_normal ?_
        refine K.KW.ifF rfl ?_
        refine K.KW.skip ?_
        refine K.thn_normal ?_
        refine K.KW.seq ?_
        -- 3 :48
        refine K.KW.region ?_
        refine K.RW.qs [.int .i64 0] (by kernel_rfl) ?_
        refine K.RW.nil ?_
        refine K.thn_normal ?_
        refine K.KW.seq ?_
        refine K.KW.seq ?_
        -- 4 :49
        refine K.KW.region ?_
        refine K.RW.qs [.string (K.sb l)] (by kernel_rfl) ?_
        refine K.RW.q rfl rfl (K.QR.sLen (xs := l) rfl rfl Tryd.underlying9) ?_
        refine K.RW.qs [.int .i64 0] (by kernel_rfl) ?_
        refine K.RW.nil ?_
        refine K.thn_normal ?_
        refine K.KW.block ?_
        refine K.KW.loop (fun m_ F_ w_ => ∃ (i : Nat) (n : Nat), m_ = l.length - i ∧ K.Sl F_ [(0, .string (K.sb l)), (1, .int .i64 least), (2, .int .i64 most), (8, .int .i64 ((n : Nat) : Int)), (23, .int .i64 ((l.length : Nat) : Int)), (24, .int .i64 ((i : Nat) : Int)), (62, undef)] ∧ i ≤ l.length ∧ NumW l n i ∧ K.Sat w0 [fr] w_) ((fun (i : Nat) (n : Nat) => l.length - i) 0 0) ?_ ?_
        · -- begins
          exact ⟨0, 0, rfl, ⟨by rfl, by rfl, by rfl, by rfl, by rfl, by rfl, by rfl, trivial⟩, (by omega), (numW0 l), hS.pick [0]⟩
        · -- a round
          clear hS
          intro m_4 F_5 w hI
          obtain ⟨i, n, rfl, sl_6, p_7, hinv, hS⟩ := hI
          rw [← K.Sl.puts sl_6]; clear sl_6
          refine K.KW.seq ?_
          -- 5 :49
          refine K.KW.region ?_
          by_cases h_8 : (((i : Nat) : Int) : Int) < (((l.length : Nat) : Int) : Int)
          ·  -- yes
            refine K.RW.q rfl rfl (K.QR.nice (v := .bool (decide ((((i : Nat) : Int) : Int) < (((l.length : Nat) : Int) : Int)))) (by kernel_rfl) (congrArg Value.bool (decide_eq_true h_8))) ?_
            refine K.RW.nil ?_
            refine K.thn_normal ?_
            refine K.KW.seq ?_
            refine K.KW.ifT rfl ?_
            refine K.KW.skip ?_
            refine K.thn_normal ?_
            refine K.KW.seq ?_
            refine K.KW.block ?_
            refine K.KW.seq ?_
            -- 6 :49
            refine K.KW.region ?_
            refine K.RW.qs [.int .i64 ((i : Nat) : Int), .int .i64 ((i : Nat) : Int)] (by kernel_rfl) ?_
            refine K.RW.nil ?_
            refine K.thn_normal ?_
            refine K.KW.seq ?_
            refine K.KW.seq ?_
            -- 7 :50
            refine K.KW.region ?_
            refine K.RW.qs [.string (K.sb l), .int .i64 ((i : Nat) : Int)] (by kernel_rfl) ?_
            refine K.RW.q rfl rfl (K.QR.sIx (xs := l) (i := i) rfl rfl rfl Tryd.underlying9 (by omega)) ?_
            by_cases h_9 : ((((l.getD i 0).toNat : Nat) : Int) : Int) < (48 : Int)
            ·  -- yes
              refine K.RW.q rfl rfl (K.QR.nice (v := .bool (decide (((((l.getD i 0).toNat : Nat) : Int) : Int) < (48 : Int)))) (by kernel_rfl) (congrArg Value.bool (decide_eq_true h_9))) ?_
              refine K.RW.qs [.bool true] (by kernel_rfl) ?_
              refine K.RW.skip rfl (by kernel_rfl) ?_
              refine K.RW.skip rfl (by kernel_rfl) ?_
              refine K.RW.skip rfl (by kernel_rfl) ?_
              refine K.RW.skip rfl (by kernel_rfl) ?_
              refine K.RW.qs [.bool true] (by kernel_rfl) ?_
              refine K.RW.nil ?_
              refine K.thn_normal ?_
              refine K.KW.ifT rfl ?_
              refine K.KW.seq ?_
              -- 8 :51
              refine K.KW.region ?_
              refine K.RW.qs [.int .i64 0, .int .i64 3] (by kernel_rfl) ?_
              refine K.RW.nil ?_
              refine K.thn_normal ?_
              refine K.KW.ret ?_
              refine K.thn_ret ?_
              refine K.blk_ret ?_
              refine K.thn_ret ?_
              refine K.thn_ret ?_
              refine K.blk_ret ?_
              refine K.thn_ret ?_
              refine ⟨.inr rfl, rfl, (.tuple #[.int .i64 0, .int .i64 3]), K.res2 rfl rfl rfl, [], ?_, hS.pick [0]⟩
              refine ⟨rfl, ?_⟩
              rw [numW_form]
              first | exact .inl (by assumption) | exact .inr (.inl (numR_lead (by omega) (by omega))) | exact .inr (.inr (notD (i := i) (by omega) (by omega)))
            ·  -- no
              refine K.RW.q rfl rfl (K.QR.nice (v := .bool (decide (((((l.getD i 0).toNat : Nat) : Int) : Int) < (48 : Int)))) (by kernel_rfl) (congrArg Value.bool (decide_eq_false h_9))) ?_
              refine K.RW.qs [.bool false, .string (K.sb l), .int .i64 ((i : Nat) : Int)] (by kernel_rfl) ?_
              refine K.RW.q rfl (by kernel_rfl) (K.QR.sIx (xs := l) (i := i) rfl rfl rfl Tryd.underlying9 (by omega)) ?_
              by_cases h_10 : ((((l.getD i 0).toNat : Nat) : Int) : Int) > (57 : Int)
              ·  -- yes
                refine K.RW.q rfl (by kernel_rfl) (K.QR.nice (v := .bool (decide (((((l.getD i 0).toNat : Nat) : Int) : Int) > (57 : Int)))) (by kernel_rfl) (congrArg Value.bool (decide_eq_true h_10))) ?_
                refine K.RW.qs [.bool true] (by kernel_rfl) ?_
                refine K.RW.nil ?_
                refine K.thn_normal ?_
                refine K.KW.ifT rfl ?_
                refine K.KW.seq ?_
                -- 8 :51
                refine K.KW.region ?_
                refine K.RW.qs [.int .i64 0, .int .i64 3] (by kernel_rfl) ?_
                refine K.RW.nil ?_
                refine K.thn_normal ?_
                refine K.KW.ret ?_
                refine K.thn_ret ?_
                refine K.blk_ret ?_
                refine K.thn_ret ?_
                refine K.thn_ret ?_
                refine K.blk_ret ?_
                refine K.thn_ret ?_
                refine ⟨.inr rfl, rfl, (.tuple #[.int .i64 0, .int .i64 3]), K.res2 rfl rfl rfl, [], ?_, hS.pick [0]⟩
                refine ⟨rfl, ?_⟩
                rw [numW_form]
                first | exact .inl (by assumption) | exact .inr (.inl (numR_lead (by omega) (by omega))) | exact .inr (.inr (notD (i := i) (by omega) (by omega)))
              ·  -- no
                refine K.RW.q rfl (by kernel_rfl) (K.QR.nice (v := .bool (decide (((((l.getD i 0).toNat : Nat) : Int) : Int) > (57 : Int)))) (by kernel_rfl) (congrArg Value.bool (decide_eq_false h_10))) ?_
                refine K.RW.qs [.bool false] (by kernel_rfl) ?_
                refine K.RW.nil ?_
                refine K.thn_normal ?_
                refine K.KW.ifF rfl ?_
                refine K.KW.skip ?_
                refine K.thn_normal ?_
                refine K.KW.seq ?_
                -- 9 :53
                have h12 := numW_lt hinv
                have h256 := UInt8.toNat_lt (l.getD i 0)
                refine K.KW.region ?_
                refine K.RW.qs [.int .i64 ((i : Nat) : Int)] (by kernel_rfl) ?_
                by_cases h_11 : (((i : Nat) : Int) : Int) < (10 : Int)
                ·  -- yes
                  refine K.RW.q rfl rfl (K.QR.nice (v := .bool (decide ((((i : Nat) : Int) : Int) < (10 : Int)))) (by kernel_rfl) (congrArg Value.bool (decide_eq_true h_11))) ?_
                  refine K.RW.nil ?_
                  refine K.thn_normal ?_
                  refine K.KW.ifT rfl ?_
                  -- 10 :54
                  refine K.KW.region ?_
                  refine K.RW.qs [.int .i64 ((n : Nat) : Int)] (by kernel_rfl) ?_
                  refine K.RW.q rfl rfl (K.QR.n64 ((10 : Int) * (((n : Nat) : Int) : Int)) ((10 * n : Nat) : Int) (by kernel_rfl) (by omega)) ?_
                  refine K.RW.qs [.string (K.sb l), .int .i64 ((i : Nat) : Int)] (by kernel_rfl) ?_
                  refine K.RW.q rfl rfl (K.QR.sIx (xs := l) (i := i) rfl rfl rfl Tryd.underlying9 (by omega)) ?_
                  refine K.RW.q rfl rfl (K.QR.turn (v := .int .u8 (IntKind.u8.wrap (((((l.getD i 0).toNat : Nat) : Int) : Int) - (48 : Int)))) (K.QR.k (v := .int .u8 (IntKind.u8.wrap (((((l.getD i 0).toNat : Nat) : Int) : Int) - (48 : Int)))) (by kernel_rfl)) (congrArg (Value.int .u8) (show (IntKind.u8.wrap (((((l.getD i 0).toNat : Nat) : Int) : Int) - (48 : Int)) : Int) = (((((l.getD i 0).toNat - 48) : Nat) : Int) : Int) from (by have := UInt8.toNat_lt (l.getD i 0); have := IntWalk.u8_in (((l.getD i 0).toNat : Int) - 48) (by omega); omega)))) ?_
                  refine K.RW.q rfl rfl (K.QR.nice (v := .int .i64 (IntKind.i64.wrap ((((l.getD i 0).toNat - 48) : Nat) : Int))) (by kernel_rfl) (congrArg (Value.int .i64) (IntWalk.i64_in _ (by omega)))) ?_
                  refine K.RW.q rfl rfl (K.QR.n64 ((((10 * n : Nat) : Int) : Int) + (((((l.getD i 0).toNat - 48) : Nat) : Int) : Int)) ((10 * n + ((l.getD i 0).toNat - 48) : Nat) : Int) (by kernel_rfl) (by omega)) ?_
                  refine K.RW.qs [.int .i64 ((10 * n + ((l.getD i 0).toNat - 48) : Nat) : Int)] (by kernel_rfl) ?_
                  refine K.RW.nil ?_
                  refine K.blk_normal ?_
                  refine K.thn_normal ?_
                  -- 11 :49
                  refine K.KW.region ?_
                  refine K.RW.q rfl rfl (K.QR.n64 ((((i : Nat) : Int) : Int) + (1 : Int)) ((i + 1 : Nat) : Int) (by kernel_rfl) (by omega)) ?_
                  refine K.RW.qs [.int .i64 ((i + 1 : Nat) : Int)] (by kernel_rfl) ?_
                  refine K.RW.nil ?_
                  refine K.thn_normal ?_
                  refine ⟨_, ?_, i + 1, 10 * n + ((l.getD i 0).toNat - 48), rfl, ⟨by rfl, by rfl, by rfl, by rfl, by rfl, by rfl, by rfl, trivial⟩, (by omega), (by first | exact numW_lo hinv (by omega) (by omega) (by omega) (by omega) | exact numW_hi hinv (by omega) (by omega) (by omega) (by omega)), hS.pick [0]⟩
                  omega
                ·  -- no
                  refine K.RW.q rfl rfl (K.QR.nice (v := .bool (decide ((((i : Nat) : Int) : Int) < (10 : Int)))) (by kernel_rfl) (congrArg Value.bool (decide_eq_false h_11))) ?_
                  refine K.RW.nil ?_
                  refine K.thn_normal ?_
                  refine K.KW.ifF rfl ?_
                  refine K.KW.skip ?_
                  refine K.blk_normal ?_
                  refine K.thn_normal ?_
                  -- 11 :49
                  refine K.KW.region ?_
                  refine K.RW.q rfl rfl (K.QR.n64 ((((i : Nat) : Int) : Int) + (1 : Int)) ((i + 1 : Nat) : Int) (by kernel_rfl) (by omega)) ?_
                  refine K.RW.qs [.int .i64 ((i + 1 : Nat) : Int)] (by kernel_rfl) ?_
                  refine K.RW.nil ?_
                  refine K.thn_normal ?_
                  refine ⟨_, ?_, i + 1, n, rfl, ⟨by rfl, by rfl, by rfl, by rfl, by rfl, by rfl, by rfl, trivial⟩, (by omega), (by first | exact numW_lo hinv (by omega) (by omega) (by omega) (by omega) | exact numW_hi hinv (by omega) (by omega) (by omega) (by omega)), hS.pick [0]⟩
                  omega
          ·  -- no
            refine K.RW.q rfl rfl (K.QR.nice (v := .bool (decide ((((i : Nat) : Int) : Int) < (((l.length : Nat) : Int) : Int)))) (by kernel_rfl) (congrArg Value.bool (decide_eq_false h_8))) ?_
            refine K.RW.nil ?_
            refine K.thn_normal ?_
            refine K.KW.seq ?_
            refine K.KW.ifF rfl ?_
            refine K.KW.exit ?_
            refine K.thn_exit ?_
            refine K.thn_exit ?_
            refine K.blk_hit ?_
            refine K.thn_normal ?_
            refine K.KW.seq ?_
            refine K.KW.seq ?_
            -- 12 :57
            refine K.KW.region ?_
            refine K.RW.qs [.string (K.sb l)] (by kernel_rfl) ?_
            refine K.RW.q rfl rfl (K.QR.sLen (xs := l) rfl rfl Tryd.underlying9) ?_
            by_cases h_12 : (((l.length : Nat) : Int) : Int) > (10 : Int)
            ·  -- yes
              refine K.RW.q rfl rfl (K.QR.nice (v := .bool (decide ((((l.length : Nat) : Int) : Int) > (10 : Int)))) (by kernel_rfl) (congrArg Value.bool (decide_eq_true h_12))) ?_
              refine K.RW.qs [.bool true] (by kernel_rfl) ?_
              refine K.RW.skip rfl (by kernel_rfl) ?_
              refine K.RW.skip rfl (by kernel_rfl) ?_
              refine K.RW.skip rfl (by kernel_rfl) ?_
              refine K.RW.qs [.bool true, .bool true] (by kernel_rfl) ?_
              refine K.RW.skip rfl (by kernel_rfl) ?_
              refine K.RW.skip rfl (by kernel_rfl) ?_
              refine K.RW.skip rfl (by kernel_rfl) ?_
              refine K.RW.qs [.bool true] (by kernel_rfl) ?_
              refine K.RW.nil ?_
              refine K.thn_normal ?_
              refine K.KW.ifT rfl ?_
              refine K.KW.seq ?_
              -- 13 :58
              refine K.KW.region ?_
              refine K.RW.qs [.int .i64 0, .int .i64 5] (by kernel_rfl) ?_
              refine K.RW.nil ?_
              refine K.thn_normal ?_
              refine K.KW.ret ?_
              refine K.thn_ret ?_
              have h9 := numW_end hinv (by omega)
              have hg : ¬ (l = [] ∨ lead l ∨ ¬ (∀ x ∈ l, isD x)) := by
                rintro (h | h | h)
                · exact absurd h (by assumption)
                · exact numR_nlead (by rintro ⟨_, _⟩; omega) h
                · exact h h9.2
              refine ⟨.inr rfl, rfl, (.tuple #[.int .i64 0, .int .i64 5]), K.res2 rfl rfl rfl, [], ?_, hS.pick [0]⟩
              exact ⟨rfl, by rw [numW_range hg (by by_cases h10 : l.length ≤ 10; (have h8 := h9.1 h10; omega); omega)]⟩
            ·  -- no
              refine K.RW.q rfl rfl (K.QR.nice (v := .bool (decide ((((l.length : Nat) : Int) : Int) > (10 : Int)))) (by kernel_rfl) (congrArg Value.bool (decide_eq_false h_12))) ?_
              refine K.RW.qs [.bool false, .int .i64 ((n : Nat) : Int), .int .i64 least] (by kernel_rfl) ?_
              by_cases h_13 : (((n : Nat) : Int) : Int) < (least : Int)
              ·  -- yes
                refine K.RW.q rfl (by kernel_rfl) (K.QR.nice (v := .bool (decide ((((n : Nat) : Int) : Int) < (least : Int)))) (by kernel_rfl) (congrArg Value.bool (decide_eq_true h_13))) ?_
                refine K.RW.qs [.bool true, .bool true] (by kernel_rfl) ?_
                refine K.RW.skip rfl (by kernel_rfl) ?_
                refine K.RW.skip rfl (by kernel_rfl) ?_
                refine K.RW.skip rfl (by kernel_rfl) ?_
                refine K.RW.qs [.bool true] (by kernel_rfl) ?_
                refine K.RW.nil ?_
                refine K.thn_normal ?_
                refine K.KW.ifT rfl ?_
                refine K.KW.seq ?_
                -- 13 :58
                refine K.KW.region ?_
                refine K.RW.qs [.int .i64 0, .int .i64 5] (by kernel_rfl) ?_
                refine K.RW.nil ?_
                refine K.thn_normal ?_
                refine K.KW.ret ?_
                refine K.thn_ret ?_
                have h9 := numW_end hinv (by omega)
                have hg : ¬ (l = [] ∨ lead l ∨ ¬ (∀ x ∈ l, isD x)) := by
                  rintro (h | h | h)
                  · exact absurd h (by assumption)
                  · exact numR_nlead (by rintro ⟨_, _⟩; omega) h
                  · exact h h9.2
                refine ⟨.inr rfl, rfl, (.tuple #[.int .i64 0, .int .i64 5]), K.res2 rfl rfl rfl, [], ?_, hS.pick [0]⟩
                exact ⟨rfl, by rw [numW_range hg (by by_cases h10 : l.length ≤ 10; (have h8 := h9.1 h10; omega); omega)]⟩
              ·  -- no
                refine K.RW.q rfl (by kernel_rfl) (K.QR.nice (v := .bool (decide ((((n : Nat) : Int) : Int) < (least : Int)))) (by kernel_rfl) (congrArg Value.bool (decide_eq_false h_13))) ?_
                refine K.RW.qs [.bool false, .bool false, .int .i64 ((n : Nat) : Int), .int .i64 most] (by kernel_rfl) ?_
                by_cases h_14 : (((n : Nat) : Int) : Int) > (most : Int)
                ·  -- yes
                  refine K.RW.q rfl (by kernel_rfl) (K.QR.nice (v := .bool (decide ((((n : Nat) : Int) : Int) > (most : Int)))) (by kernel_rfl) (congrArg Value.bool (decide_eq_true h_14))) ?_
                  refine K.RW.qs [.bool true] (by kernel_rfl) ?_
                  refine K.RW.nil ?_
                  refine K.thn_normal ?_
                  refine K.KW.ifT rfl ?_
                  refine K.KW.seq ?_
                  -- 13 :58
                  refine K.KW.region ?_
                  refine K.RW.qs [.int .i64 0, .int .i64 5] (by kernel_rfl) ?_
                  refine K.RW.nil ?_
                  refine K.thn_normal ?_
                  refine K.KW.ret ?_
                  refine K.thn_ret ?_
                  have h9 := numW_end hinv (by omega)
                  have hg : ¬ (l = [] ∨ lead l ∨ ¬ (∀ x ∈ l, isD x)) := by
                    rintro (h | h | h)
                    · exact absurd h (by assumption)
                    · exact numR_nlead (by rintro ⟨_, _⟩; omega) h
                    · exact h h9.2
                  refine ⟨.inr rfl, rfl, (.tuple #[.int .i64 0, .int .i64 5]), K.res2 rfl rfl rfl, [], ?_, hS.pick [0]⟩
                  exact ⟨rfl, by rw [numW_range hg (by by_cases h10 : l.length ≤ 10; (have h8 := h9.1 h10; omega); omega)]⟩
                ·  -- no
                  refine K.RW.q rfl (by kernel_rfl) (K.QR.nice (v := .bool (decide ((((n : Nat) : Int) : Int) > (most : Int)))) (by kernel_rfl) (congrArg Value.bool (decide_eq_false h_14))) ?_
                  refine K.RW.qs [.bool false] (by kernel_rfl) ?_
                  refine K.RW.nil ?_
                  refine K.thn_normal ?_
                  refine K.KW.ifF rfl ?_
                  refine K.KW.skip ?_
                  refine K.thn_normal ?_
                  refine K.KW.seq ?_
                  -- 14 :60
                  refine K.KW.region ?_
                  refine K.RW.qs [.int .i64 ((n : Nat) : Int), .int .i64 ((n : Nat) : Int), .int .i64 0] (by kernel_rfl) ?_
                  refine K.RW.nil ?_
                  refine K.thn_normal ?_
                  refine K.KW.ret ?_
                  have h9 := numW_end hinv (by omega)
                  have hg : ¬ (l = [] ∨ lead l ∨ ¬ (∀ x ∈ l, isD x)) := by
                    rintro (h | h | h)
                    · exact absurd h (by assumption)
                    · exact numR_nlead (by rintro ⟨_, _⟩; omega) h
                    · exact h h9.2
                  refine ⟨.inr rfl, rfl, (.tuple #[.int .i64 ((n : Nat) : Int), .int .i64 0]), K.res2 rfl rfl rfl, [], ?_, hS.pick [0]⟩
                  exact ⟨rfl, by rw [h9.1 (by omega), numW_ok hg (by have h8 := h9.1 (by omega); omega)]⟩
    ·  -- no
      refine K.RW.q rfl (by kernel_rfl) (K.QR.nice (v := .bool (decide ((((l.length : Nat) : Int) : Int) > (1 : Int)))) (by kernel_rfl) (congrArg Value.bool (decide_eq_false h_2))) ?_
      refine K.RW.qs [.bool false] (by kernel_rfl) ?_
      refine K.RW.skip rfl (by kernel_rfl) ?_
      refine K.RW.skip rfl (by kernel_rfl) ?_
      refine K.RW.skip rfl (by kernel_rfl) ?_
      refine K.RW.qs [.bool false, .bool false] (by kernel_rfl) ?_
      refine K.RW.nil ?_
      refine K.thn_normal ?_
      refine K.KW.ifF rfl ?_
      refine K.KW.skip ?_
      refine K.thn_normal ?_
      refine K.KW.seq ?_
      -- 3 :48
      refine K.KW.region ?_
      refine K.RW.qs [.int .i64 0] (by kernel_rfl) ?_
      refine K.RW.nil ?_
      refine K.thn_normal ?_
      refine K.KW.seq ?_
      refine K.KW.seq ?_
      -- 4 :49
      refine K.KW.region ?_
      refine K.RW.qs [.string (K.sb l)] (by kernel_rfl) ?_
      refine K.RW.q rfl rfl (K.QR.sLen (xs := l) rfl rfl Tryd.underlying9) ?_
      refine K.RW.qs [.int .i64 0] (by kernel_rfl) ?_
      refine K.RW.nil ?_
      refine K.thn_normal ?_
      refine K.KW.block ?_
      refine K.KW.loop (fun m_ F_ w_ => ∃ (i : Nat) (n : Nat), m_ = l.length - i ∧ K.Sl F_ [(0, .string (K.sb l)), (1, .int .i64 least), (2, .int .i64 most), (8, .int .i64 ((n : Nat) : Int)), (23, .int .i64 ((l.length : Nat) : Int)), (24, .int .i64 ((i : Nat) : Int)), (62, undef)] ∧ i ≤ l.length ∧ NumW l n i ∧ K.Sat w0 [fr] w_) ((fun (i : Nat) (n : Nat) => l.length - i) 0 0) ?_ ?_
      · -- begins
        exact ⟨0, 0, rfl, ⟨by rfl, by rfl, by rfl, by rfl, by rfl, by rfl, by rfl, trivial⟩, (by omega), (numW0 l), hS.pick [0]⟩
      · -- a round
        clear hS
        intro m_15 F_16 w hI
        obtain ⟨i, n, rfl, sl_17, p_18, hinv, hS⟩ := hI
        rw [← K.Sl.puts sl_17]; clear sl_17
        refine K.KW.seq ?_
        -- 5 :49
        refine K.KW.region ?_
        by_cases h_19 : (((i : Nat) : Int) : Int) < (((l.length : Nat) : Int) : Int)
        ·  -- yes
          refine K.RW.q rfl rfl (K.QR.nice (v := .bool (decide ((((i : Nat) : Int) : Int) < (((l.length : Nat) : Int) : Int)))) (by kernel_rfl) (congrArg Value.bool (decide_eq_true h_19))) ?_
          refine K.RW.nil ?_
          refine K.thn_normal ?_
          refine K.KW.seq ?_
          refine K.KW.ifT rfl ?_
          refine K.KW.skip ?_
          refine K.thn_normal ?_
          refine K.KW.seq ?_
          refine K.KW.block ?_
          refine K.KW.seq ?_
          -- 6 :49
          refine K.KW.region ?_
          refine K.RW.qs [.int .i64 ((i : Nat) : Int), .int .i64 ((i : Nat) : Int)] (by kernel_rfl) ?_
          refine K.RW.nil ?_
          refine K.thn_normal ?_
          refine K.KW.seq ?_
          refine K.KW.seq ?_
          -- 7 :50
          refine K.KW.region ?_
          refine K.RW.qs [.string (K.sb l), .int .i64 ((i : Nat) : Int)] (by kernel_rfl) ?_
          refine K.RW.q rfl rfl (K.QR.sIx (xs := l) (i := i) rfl rfl rfl Tryd.underlying9 (by omega)) ?_
          by_cases h_20 : ((((l.getD i 0).toNat : Nat) : Int) : Int) < (48 : Int)
          ·  -- yes
            refine K.RW.q rfl rfl (K.QR.nice (v := .bool (decide (((((l.getD i 0).toNat : Nat) : Int) : Int) < (48 : Int)))) (by kernel_rfl) (congrArg Value.bool (decide_eq_true h_20))) ?_
            refine K.RW.qs [.bool true] (by kernel_rfl) ?_
            refine K.RW.skip rfl (by kernel_rfl) ?_
            refine K.RW.skip rfl (by kernel_rfl) ?_
            refine K.RW.skip rfl (by kernel_rfl) ?_
            refine K.RW.skip rfl (by kernel_rfl) ?_
            refine K.RW.qs [.bool true] (by kernel_rfl) ?_
            refine K.RW.nil ?_
            refine K.thn_normal ?_
            refine K.KW.ifT rfl ?_
            refine K.KW.seq ?_
            -- 8 :51
            refine K.KW.region ?_
            refine K.RW.qs [.int .i64 0, .int .i64 3] (by kernel_rfl) ?_
            refine K.RW.nil ?_
            refine K.thn_normal ?_
            refine K.KW.ret ?_
            refine K.thn_ret ?_
            refine K.blk_ret ?_
            refine K.thn_ret ?_
            refine K.thn_ret ?_
            refine K.blk_ret ?_
            refine K.thn_ret ?_
            refine ⟨.inr rfl, rfl, (.tuple #[.int .i64 0, .int .i64 3]), K.res2 rfl rfl rfl, [], ?_, hS.pick [0]⟩
            refine ⟨rfl, ?_⟩
            rw [numW_form]
            first | exact .inl (by assumption) | exact .inr (.inl (numR_lead (by omega) (by omega))) | exact .inr (.inr (notD (i := i) (by omega) (by omega)))
          ·  -- no
            refine K.RW.q rfl rfl (K.QR.nice (v := .bool (decide (((((l.getD i 0).toNat : Nat) : Int) : Int) < (48 : Int)))) (by kernel_rfl) (congrArg Value.bool (decide_eq_false h_20))) ?_
            refine K.RW.qs [.bool false, .string (K.sb l), .int .i64 ((i : Nat) : Int)] (by kernel_rfl) ?_
            refine K.RW.q rfl (by kernel_rfl) (K.QR.sIx (xs := l) (i := i) rfl rfl rfl Tryd.underlying9 (by omega)) ?_
            by_cases h_21 : ((((l.getD i 0).toNat : Nat) : Int) : Int) > (57 : Int)
            ·  -- yes
              refine K.RW.q rfl (by kernel_rfl) (K.QR.nice (v := .bool (decide (((((l.getD i 0).toNat : Nat) : Int) : Int) > (57 : Int)))) (by kernel_rfl) (congrArg Value.bool (decide_eq_true h_21))) ?_
              refine K.RW.qs [.bool true] (by kernel_rfl) ?_
              refine K.RW.nil ?_
              refine K.thn_normal ?_
              refine K.KW.ifT rfl ?_
              refine K.KW.seq ?_
              -- 8 :51
              refine K.KW.region ?_
              refine K.RW.qs [.int .i64 0, .int .i64 3] (by kernel_rfl) ?_
              refine K.RW.nil ?_
              refine K.thn_normal ?_
              refine K.KW.ret ?_
              refine K.thn_ret ?_
              refine K.blk_ret ?_
              refine K.thn_ret ?_
              refine K.thn_ret ?_
              refine K.blk_ret ?_
              refine K.thn_ret ?_
              refine ⟨.inr rfl, rfl, (.tuple #[.int .i64 0, .int .i64 3]), K.res2 rfl rfl rfl, [], ?_, hS.pick [0]⟩
              refine ⟨rfl, ?_⟩
              rw [numW_form]
              first | exact .inl (by assumption) | exact .inr (.inl (numR_lead (by omega) (by omega))) | exact .inr (.inr (notD (i := i) (by omega) (by omega)))
            ·  -- no
              refine K.RW.q rfl (by kernel_rfl) (K.QR.nice (v := .bool (decide (((((l.getD i 0).toNat : Nat) : Int) : Int) > (57 : Int)))) (by kernel_rfl) (congrArg Value.bool (decide_eq_false h_21))) ?_
              refine K.RW.qs [.bool false] (by kernel_rfl) ?_
              refine K.RW.nil ?_
              refine K.thn_normal ?_
              refine K.KW.ifF rfl ?_
              refine K.KW.skip ?_
              refine K.thn_normal ?_
              refine K.KW.seq ?_
              -- 9 :53
              have h12 := numW_lt hinv
              have h256 := UInt8.toNat_lt (l.getD i 0)
              refine K.KW.region ?_
              refine K.RW.qs [.int .i64 ((i : Nat) : Int)] (by kernel_rfl) ?_
              by_cases h_22 : (((i : Nat) : Int) : Int) < (10 : Int)
              ·  -- yes
                refine K.RW.q rfl rfl (K.QR.nice (v := .bool (decide ((((i : Nat) : Int) : Int) < (10 : Int)))) (by kernel_rfl) (congrArg Value.bool (decide_eq_true h_22))) ?_
                refine K.RW.nil ?_
                refine K.thn_normal ?_
                refine K.KW.ifT rfl ?_
                -- 10 :54
                refine K.KW.region ?_
                refine K.RW.qs [.int .i64 ((n : Nat) : Int)] (by kernel_rfl) ?_
                refine K.RW.q rfl rfl (K.QR.n64 ((10 : Int) * (((n : Nat) : Int) : Int)) ((10 * n : Nat) : Int) (by kernel_rfl) (by omega)) ?_
                refine K.RW.qs [.string (K.sb l), .int .i64 ((i : Nat) : Int)] (by kernel_rfl) ?_
                refine K.RW.q rfl rfl (K.QR.sIx (xs := l) (i := i) rfl rfl rfl Tryd.underlying9 (by omega)) ?_
                refine K.RW.q rfl rfl (K.QR.turn (v := .int .u8 (IntKind.u8.wrap (((((l.getD i 0).toNat : Nat) : Int) : Int) - (48 : Int)))) (K.QR.k (v := .int .u8 (IntKind.u8.wrap (((((l.getD i 0).toNat : Nat) : Int) : Int) - (48 : Int)))) (by kernel_rfl)) (congrArg (Value.int .u8) (show (IntKind.u8.wrap (((((l.getD i 0).toNat : Nat) : Int) : Int) - (48 : Int)) : Int) = (((((l.getD i 0).toNat - 48) : Nat) : Int) : Int) from (by have := UInt8.toNat_lt (l.getD i 0); have := IntWalk.u8_in (((l.getD i 0).toNat : Int) - 48) (by omega); omega)))) ?_
                refine K.RW.q rfl rfl (K.QR.nice (v := .int .i64 (IntKind.i64.wrap ((((l.getD i 0).toNat - 48) : Nat) : Int))) (by kernel_rfl) (congrArg (Value.int .i64) (IntWalk.i64_in _ (by omega)))) ?_
                refine K.RW.q rfl rfl (K.QR.n64 ((((10 * n : Nat) : Int) : Int) + (((((l.getD i 0).toNat - 48) : Nat) : Int) : Int)) ((10 * n + ((l.getD i 0).toNat - 48) : Nat) : Int) (by kernel_rfl) (by omega)) ?_
                refine K.RW.qs [.int .i64 ((10 * n + ((l.getD i 0).toNat - 48) : Nat) : Int)] (by kernel_rfl) ?_
                refine K.RW.nil ?_
                refine K.blk_normal ?_
                refine K.thn_normal ?_
                -- 11 :49
                refine K.KW.region ?_
                refine K.RW.q rfl rfl (K.QR.n64 ((((i : Nat) : Int) : Int) + (1 : Int)) ((i + 1 : Nat) : Int) (by kernel_rfl) (by omega)) ?_
                refine K.RW.qs [.int .i64 ((i + 1 : Nat) : Int)] (by kernel_rfl) ?_
                refine K.RW.nil ?_
                refine K.thn_normal ?_
                refine ⟨_, ?_, i + 1, 10 * n + ((l.getD i 0).toNat - 48), rfl, ⟨by rfl, by rfl, by rfl, by rfl, by rfl, by rfl, by rfl, trivial⟩, (by omega), (by first | exact numW_lo hinv (by omega) (by omega) (by omega) (by omega) | exact numW_hi hinv (by omega) (by omega) (by omega) (by omega)), hS.pick [0]⟩
                omega
              ·  -- no
                refine K.RW.q rfl rfl (K.QR.nice (v := .bool (decide ((((i : Nat) : Int) : Int) < (10 : Int)))) (by kernel_rfl) (congrArg Value.bool (decide_eq_false h_22))) ?_
                refine K.RW.nil ?_
                refine K.thn_normal ?_
                refine K.KW.ifF rfl ?_
                refine K.KW.skip ?_
                refine K.blk_normal ?_
                refine K.thn_normal ?_
                -- 11 :49
                refine K.KW.region ?_
                refine K.RW.q rfl rfl (K.QR.n64 ((((i : Nat) : Int) : Int) + (1 : Int)) ((i + 1 : Nat) : Int) (by kernel_rfl) (by omega)) ?_
                refine K.RW.qs [.int .i64 ((i + 1 : Nat) : Int)] (by kernel_rfl) ?_
                refine K.RW.nil ?_
                refine K.thn_normal ?_
                refine ⟨_, ?_, i + 1, n, rfl, ⟨by rfl, by rfl, by rfl, by rfl, by rfl, by rfl, by rfl, trivial⟩, (by omega), (by first | exact numW_lo hinv (by omega) (by omega) (by omega) (by omega) | exact numW_hi hinv (by omega) (by omega) (by omega) (by omega)), hS.pick [0]⟩
                omega
        ·  -- no
          refine K.RW.q rfl rfl (K.QR.nice (v := .bool (decide ((((i : Nat) : Int) : Int) < (((l.length : Nat) : Int) : Int)))) (by kernel_rfl) (congrArg Value.bool (decide_eq_false h_19))) ?_
          refine K.RW.nil ?_
          refine K.thn_normal ?_
          refine K.KW.seq ?_
          refine K.KW.ifF rfl ?_
          refine K.KW.exit ?_
          refine K.thn_exit ?_
          refine K.thn_exit ?_
          refine K.blk_hit ?_
          refine K.thn_normal ?_
          refine K.KW.seq ?_
          refine K.KW.seq ?_
          -- 12 :57
          refine K.KW.region ?_
          refine K.RW.qs [.string (K.sb l)] (by kernel_rfl) ?_
          refine K.RW.q rfl rfl (K.QR.sLen (xs := l) rfl rfl Tryd.underlying9) ?_
          by_cases h_23 : (((l.length : Nat) : Int) : Int) > (10 : Int)
          ·  -- yes
            refine K.RW.q rfl rfl (K.QR.nice (v := .bool (decide ((((l.length : Nat) : Int) : Int) > (10 : Int)))) (by kernel_rfl) (congrArg Value.bool (decide_eq_true h_23))) ?_
            refine K.RW.qs [.bool true] (by kernel_rfl) ?_
            refine K.RW.skip rfl (by kernel_rfl) ?_
            refine K.RW.skip rfl (by kernel_rfl) ?_
            refine K.RW.skip rfl (by kernel_rfl) ?_
            refine K.RW.qs [.bool true, .bool true] (by kernel_rfl) ?_
            refine K.RW.skip rfl (by kernel_rfl) ?_
            refine K.RW.skip rfl (by kernel_rfl) ?_
            refine K.RW.skip rfl (by kernel_rfl) ?_
            refine K.RW.qs [.bool true] (by kernel_rfl) ?_
            refine K.RW.nil ?_
            refine K.thn_normal ?_
            refine K.KW.ifT rfl ?_
            refine K.KW.seq ?_
            -- 13 :58
            refine K.KW.region ?_
            refine K.RW.qs [.int .i64 0, .int .i64 5] (by kernel_rfl) ?_
            refine K.RW.nil ?_
            refine K.thn_normal ?_
            refine K.KW.ret ?_
            refine K.thn_ret ?_
            have h9 := numW_end hinv (by omega)
            have hg : ¬ (l = [] ∨ lead l ∨ ¬ (∀ x ∈ l, isD x)) := by
              rintro (h | h | h)
              · exact absurd h (by assumption)
              · exact numR_nlead (by rintro ⟨_, _⟩; omega) h
              · exact h h9.2
            refine ⟨.inr rfl, rfl, (.tuple #[.int .i64 0, .int .i64 5]), K.res2 rfl rfl rfl, [], ?_, hS.pick [0]⟩
            exact ⟨rfl, by rw [numW_range hg (by by_cases h10 : l.length ≤ 10; (have h8 := h9.1 h10; omega); omega)]⟩
          ·  -- no
            refine K.RW.q rfl rfl (K.QR.nice (v := .bool (decide ((((l.length : Nat) : Int) : Int) > (10 : Int)))) (by kernel_rfl) (congrArg Value.bool (decide_eq_false h_23))) ?_
            refine K.RW.qs [.bool false, .int .i64 ((n : Nat) : Int), .int .i64 least] (by kernel_rfl) ?_
            by_cases h_24 : (((n : Nat) : Int) : Int) < (least : Int)
            ·  -- yes
              refine K.RW.q rfl (by kernel_rfl) (K.QR.nice (v := .bool (decide ((((n : Nat) : Int) : Int) < (least : Int)))) (by kernel_rfl) (congrArg Value.bool (decide_eq_true h_24))) ?_
              refine K.RW.qs [.bool true, .bool true] (by kernel_rfl) ?_
              refine K.RW.skip rfl (by kernel_rfl) ?_
              refine K.RW.skip rfl (by kernel_rfl) ?_
              refine K.RW.skip rfl (by kernel_rfl) ?_
              refine K.RW.qs [.bool true] (by kernel_rfl) ?_
              refine K.RW.nil ?_
              refine K.thn_normal ?_
              refine K.KW.ifT rfl ?_
              refine K.KW.seq ?_
              -- 13 :58
              refine K.KW.region ?_
              refine K.RW.qs [.int .i64 0, .int .i64 5] (by kernel_rfl) ?_
              refine K.RW.nil ?_
              refine K.thn_normal ?_
              refine K.KW.ret ?_
              refine K.thn_ret ?_
              have h9 := numW_end hinv (by omega)
              have hg : ¬ (l = [] ∨ lead l ∨ ¬ (∀ x ∈ l, isD x)) := by
                rintro (h | h | h)
                · exact absurd h (by assumption)
                · exact numR_nlead (by rintro ⟨_, _⟩; omega) h
                · exact h h9.2
              refine ⟨.inr rfl, rfl, (.tuple #[.int .i64 0, .int .i64 5]), K.res2 rfl rfl rfl, [], ?_, hS.pick [0]⟩
              exact ⟨rfl, by rw [numW_range hg (by by_cases h10 : l.length ≤ 10; (have h8 := h9.1 h10; omega); omega)]⟩
            ·  -- no
              refine K.RW.q rfl (by kernel_rfl) (K.QR.nice (v := .bool (decide ((((n : Nat) : Int) : Int) < (least : Int)))) (by kernel_rfl) (congrArg Value.bool (decide_eq_false h_24))) ?_
              refine K.RW.qs [.bool false, .bool false, .int .i64 ((n : Nat) : Int), .int .i64 most] (by kernel_rfl) ?_
              by_cases h_25 : (((n : Nat) : Int) : Int) > (most : Int)
              ·  -- yes
                refine K.RW.q rfl (by kernel_rfl) (K.QR.nice (v := .bool (decide ((((n : Nat) : Int) : Int) > (most : Int)))) (by kernel_rfl) (congrArg Value.bool (decide_eq_true h_25))) ?_
                refine K.RW.qs [.bool true] (by kernel_rfl) ?_
                refine K.RW.nil ?_
                refine K.thn_normal ?_
                refine K.KW.ifT rfl ?_
                refine K.KW.seq ?_
                -- 13 :58
                refine K.KW.region ?_
                refine K.RW.qs [.int .i64 0, .int .i64 5] (by kernel_rfl) ?_
                refine K.RW.nil ?_
                refine K.thn_normal ?_
                refine K.KW.ret ?_
                refine K.thn_ret ?_
                have h9 := numW_end hinv (by omega)
                have hg : ¬ (l = [] ∨ lead l ∨ ¬ (∀ x ∈ l, isD x)) := by
                  rintro (h | h | h)
                  · exact absurd h (by assumption)
                  · exact numR_nlead (by rintro ⟨_, _⟩; omega) h
                  · exact h h9.2
                refine ⟨.inr rfl, rfl, (.tuple #[.int .i64 0, .int .i64 5]), K.res2 rfl rfl rfl, [], ?_, hS.pick [0]⟩
                exact ⟨rfl, by rw [numW_range hg (by by_cases h10 : l.length ≤ 10; (have h8 := h9.1 h10; omega); omega)]⟩
              ·  -- no
                refine K.RW.q rfl (by kernel_rfl) (K.QR.nice (v := .bool (decide ((((n : Nat) : Int) : Int) > (most : Int)))) (by kernel_rfl) (congrArg Value.bool (decide_eq_false h_25))) ?_
                refine K.RW.qs [.bool false] (by kernel_rfl) ?_
                refine K.RW.nil ?_
                refine K.thn_normal ?_
                refine K.KW.ifF rfl ?_
                refine K.KW.skip ?_
                refine K.thn_normal ?_
                refine K.KW.seq ?_
                -- 14 :60
                refine K.KW.region ?_
                refine K.RW.qs [.int .i64 ((n : Nat) : Int), .int .i64 ((n : Nat) : Int), .int .i64 0] (by kernel_rfl) ?_
                refine K.RW.nil ?_
                refine K.thn_normal ?_
                refine K.KW.ret ?_
                have h9 := numW_end hinv (by omega)
                have hg : ¬ (l = [] ∨ lead l ∨ ¬ (∀ x ∈ l, isD x)) := by
                  rintro (h | h | h)
                  · exact absurd h (by assumption)
                  · exact numR_nlead (by rintro ⟨_, _⟩; omega) h
                  · exact h h9.2
                refine ⟨.inr rfl, rfl, (.tuple #[.int .i64 ((n : Nat) : Int), .int .i64 0]), K.res2 rfl rfl rfl, [], ?_, hS.pick [0]⟩
                exact ⟨rfl, by rw [h9.1 (by omega), numW_ok hg (by have h8 := h9.1 (by omega); omega)]⟩
set_option maxHeartbeats 4000000 in
set_option maxRecDepth 100000 in
theorem snumbers_ok (w0 : World) (a ab : Option Addr) (cap capb : Nat) (W : List (List UInt8)) (B : List (Int × Int)) (hm : W.length ≤ 1000000) (hmb : B.length ≤ 1000000) (hW : ∀ q, (W.getD q []).length ≤ 1000000) (gw : K.Cs) (hxw : ∀ w, K.Sat w0 [gw] w → K.RowE w a W.length 1 (fun i => K.cStr (W.getD i []))) (gb : K.Cs) (hxb : ∀ w, K.Sat w0 [gb] w → K.RowE w ab B.length 2 (fun i => cRg (B.getD i ((0, 0) : Int × Int)))) :
    K.GC Tryd.prog w0 90 #[.slice a W.length cap, .slice ab B.length capb] [gw, gb] (fun v post => (∃ r g k, numsE W B = 0 ∧ post = [gw, gb, g] ∧ v = .tuple #[.slice r (numsV W B).length k, .int .i64 0] ∧ K.OwnG g 3 1 r (numsV W B).length k ((numsV W B).flatMap cI64)) ∨ (¬ numsE W B = 0 ∧ post = [gw, gb] ∧ v = .tuple #[.slice none 0 0, .int .i64 (numsE W B)])) := by
  refine K.GC.mk (n := 47) Tryd.func90 rfl rfl [.slice a W.length cap, .slice ab B.length capb] rfl rfl ?_
  intro fr w hS
  replace hS : K.Sat w0 [gw, gb, fr] w := hS
  refine K.KW.seq ?_
  -- 0 :75
  refine K.KW.region ?_
  refine K.RW.qs [.slice none 0 0, .int .i64 0] (by kernel_rfl) ?_
  refine K.RW.nil ?_
  refine K.thn_normal ?_
  refine K.KW.seq ?_
  refine K.KW.seq ?_
  -- 1 :76
  refine K.KW.region ?_
  refine K.RW.qs [.slice a W.length cap] (by kernel_rfl) ?_
  refine K.RW.q rfl rfl (K.QR.len (P := Tryd.prog) rfl rfl Tryd.underlying68) ?_
  refine K.RW.qs [.slice ab B.length capb] (by kernel_rfl) ?_
  refine K.RW.q rfl rfl (K.QR.len (P := Tryd.prog) rfl rfl Tryd.underlying141) ?_
  by_cases h_1 : (((W.length : Nat) : Int) : Int) = (((B.length : Nat) : Int) : Int)
  ·  -- yes
    refine K.RW.q rfl rfl (K.QR.nice (v := .bool ((((W.length : Nat) : Int) : Int) != (((B.length : Nat) : Int) : Int))) (by kernel_rfl) (congrArg Value.bool (bne_eq_false_iff_eq.2 h_1))) ?_
    refine K.RW.nil ?_
    refine K.thn_normal ?_
    refine K.KW.ifF rfl ?_
    refine K.KW.skip ?_
    refine K.thn_normal ?_
    refine K.KW.seq ?_
    -- 3 :79
    refine K.KW.region ?_
    refine K.RW.qs [.slice none 0 0] (by kernel_rfl) ?_
    refine K.RW.nil ?_
    refine K.thn_normal ?_
    refine K.KW.seq ?_
    refine K.KW.seq ?_
    -- 4 :80
    refine K.KW.region ?_
    refine K.RW.qs [.slice a W.length cap] (by kernel_rfl) ?_
    refine K.RW.q rfl rfl (K.QR.len (P := Tryd.prog) rfl rfl Tryd.underlying68) ?_
    refine K.RW.qs [.int .i64 0] (by kernel_rfl) ?_
    refine K.RW.nil ?_
    refine K.thn_normal ?_
    refine K.KW.block ?_
    obtain ⟨z_2, hz_3⟩ : ∃ z : K.Cs, z = [] := ⟨_, rfl⟩
    replace hS : K.Sat w0 [z_2, gw, gb, fr] w := hS.of (by simp [hz_3])
    have o_4 : K.OwnG z_2 3 1 none 0 0 [] := by rw [hz_3]; exact K.OwnG.nil _ _
    refine K.KW.loop (fun m_ F_ w_ => ∃ (j : Nat) (o : List Int) (q1 : Option Addr) (c1 : Nat) (o1 : K.Cs), m_ = W.length - j ∧ K.Sl F_ [(0, .slice a W.length cap), (1, .slice ab B.length capb), (6, .slice q1 o.length c1), (16, .slice a W.length cap), (17, .int .i64 ((W.length : Nat) : Int)), (18, .int .i64 ((j : Nat) : Int)), (47, undef)] ∧ j ≤ W.length ∧ (∀ q, q < j → numE1 W B q = 0) ∧ o = (List.range j).map (numV1 W B) ∧ K.OwnG o1 3 1 q1 o.length c1 ((o).flatMap cI64) ∧ K.Sat w0 [o1, gw, gb, fr] w_) ((fun (j : Nat) (o : List Int) (q1 : Option Addr) (c1 : Nat) => W.length - j) 0 [] none 0) ?_ ?_
    · -- begins
      exact ⟨0, [], none, 0, z_2, rfl, ⟨by rfl, by rfl, by rfl, by rfl, by rfl, by rfl, by rfl, trivial⟩, (by omega), (fun q hq => by omega), (rfl), o_4, hS.pick [0, 1, 2, 3]⟩
    · -- a round
      clear hS
      intro m_5 F_6 w hI
      obtain ⟨j, o, q1, c1, o1, rfl, sl_7, p_8, hE, ho, x_9, hS⟩ := hI
      rw [← K.Sl.puts sl_7]; clear sl_7
      have hol : o.length = j := by rw [ho, List.length_map, List.length_range]
      refine K.KW.seq ?_
      -- 5 :80
      refine K.KW.region ?_
      by_cases h_10 : (((j : Nat) : Int) : Int) < (((W.length : Nat) : Int) : Int)
      ·  -- yes
        refine K.RW.q rfl rfl (K.QR.nice (v := .bool (decide ((((j : Nat) : Int) : Int) < (((W.length : Nat) : Int) : Int)))) (by kernel_rfl) (congrArg Value.bool (decide_eq_true h_10))) ?_
        refine K.RW.nil ?_
        refine K.thn_normal ?_
        refine K.KW.seq ?_
        refine K.KW.ifT rfl ?_
        refine K.KW.skip ?_
        refine K.thn_normal ?_
        refine K.KW.seq ?_
        refine K.KW.block ?_
        refine K.KW.seq ?_
        -- 6 :80
        obtain ⟨b_11, of_12, rfl, _⟩ := (hxw _ (hS.pick [1])).at_ (by omega)
        refine K.KW.region ?_
        refine K.RW.qs [.int .i64 ((j : Nat) : Int)] (by kernel_rfl) ?_
        refine K.RW.q rfl rfl (K.QR.ix (of_12 + j * 1) 1 rfl rfl rfl Tryd.underlying68 (by kernel_rfl) (by omega) (by first | (simp; done) | omega | (simp; omega))) ?_
        refine K.RW.q rfl rfl (K.QR.ld1 (v := .string (K.sb (W.getD j []))) rfl rfl (by kernel_rfl) ((hxw _ (hS.pick [1])).ld j (by omega) 0 _ rfl)) ?_
        refine K.RW.qs [.int .i64 ((j : Nat) : Int), .string (K.sb (W.getD j []))] (by kernel_rfl) ?_
        refine K.RW.nil ?_
        refine K.thn_normal ?_
        refine K.KW.seq ?_
        -- 7 :81
        obtain ⟨b_13, of_14, rfl, _⟩ := (hxb _ (hS.pick [2])).at_ (by omega)
        refine K.KW.gdrawn [2] hS (by kernel_rfl) ?_
        clear hS; intro w hS
        refine K.DW.q 0 (by kernel_rfl) rfl rfl (by kernel_rfl) rfl (fun w hS => K.QR.k (v := .string (K.sb (W.getD j []))) (by kernel_rfl)) (hS.pick [2]) ?_
        refine K.DW.q 1 (by kernel_rfl) rfl rfl (by kernel_rfl) rfl (fun w hS => K.QR.k (v := .slice (some ⟨b_13, of_14, none⟩) B.length capb) (by kernel_rfl)) (hS.pick [2]) ?_
        refine K.DW.q 2 (by kernel_rfl) rfl rfl (by kernel_rfl) rfl (fun w hS => K.QR.k (v := .int .i64 ((j : Nat) : Int)) (by kernel_rfl)) (hS.pick [2]) ?_
        refine K.DW.q 3 (by kernel_rfl) rfl rfl (by kernel_rfl) rfl (fun w hS => K.QR.ix (of_14 + j * 2) 2 rfl rfl rfl Tryd.underlying141 (by kernel_rfl) (by omega) (by first | (simp; done) | omega | (simp; omega))) (hS.pick [2]) ?_
        refine K.DW.q 4 (by kernel_rfl) rfl rfl (by kernel_rfl) rfl (fun w hS => K.QR.k (v := .pointer (some ⟨b_13, of_14 + j * 2, none⟩)) (by kernel_rfl)) (hS.pick [2]) ?_
        refine K.DW.q 5 (by kernel_rfl) rfl rfl (by kernel_rfl) rfl (fun w hS => K.QR.ld1 (v := .int .i64 ((B.getD j ((0, 0) : Int × Int)).1)) rfl rfl (by kernel_rfl) ((hxb _ (hS.pick [0])).ld j (by omega) 0 _ rfl)) (hS.pick [2]) ?_
        refine K.DW.q 6 (by kernel_rfl) rfl rfl (by kernel_rfl) rfl (fun w hS => K.QR.k (v := .slice (some ⟨b_13, of_14, none⟩) B.length capb) (by kernel_rfl)) (hS.pick [2]) ?_
        refine K.DW.l 7 rfl (by kernel_rfl) rfl (K.OW.q rfl (K.QR.k (v := .int .i64 ((j : Nat) : Int)) (by kernel_rfl)) ?_)
        refine ⟨.inl (hS.pick [2]), ?_⟩
        refine K.DW.l 8 rfl (by kernel_rfl) rfl (K.OW.q rfl (K.QR.ix (of_14 + j * 2) 2 rfl rfl rfl Tryd.underlying141 (by kernel_rfl) (by omega) (by first | (simp; done) | omega | (simp; omega))) ?_)
        refine ⟨.inl (hS.pick [2]), ?_⟩
        refine K.DW.l 9 rfl (by kernel_rfl) rfl (K.OW.q rfl (K.QR.k (v := .pointer (some ⟨b_13, of_14 + j * 2 + 1, none⟩)) (by kernel_rfl)) ?_)
        refine ⟨.inl (hS.pick [2]), ?_⟩
        refine K.DW.l 10 rfl (by kernel_rfl) rfl (K.OW.q rfl (K.QR.ld1 (v := .int .i64 ((B.getD j ((0, 0) : Int × Int)).2)) rfl rfl (by kernel_rfl) ((hxb _ (hS.pick [2])).ld j (by omega) 1 _ rfl)) ?_)
        refine ⟨.inl (hS.pick [2]), ?_⟩
        refine K.DW.l 11 rfl (by kernel_rfl) rfl (K.OW.gcall hS [] [0, 1, 2, 3] [.string (K.sb (W.getD j [])), .int .i64 ((B.getD j ((0, 0) : Int × Int)).1), .int .i64 ((B.getD j ((0, 0) : Int × Int)).2)] (snumber_ok _ (W.getD j []) ((B.getD j ((0, 0) : Int × Int)).1) ((B.getD j ((0, 0) : Int × Int)).2) (by exact hW j)) ?_)
        clear hS; rintro _ _ w ⟨rfl, rfl⟩ hS
        replace hS : K.Sat w0 [o1, gw, gb, fr] w := hS
        refine ⟨.inl (hS.pick [2]), ?_⟩
        refine K.DW.l 12 rfl (by kernel_rfl) rfl (K.OW.q rfl (K.QR.k (v := .tuple #[.int .i64 ((numW (W.getD j []) ((B.getD j ((0, 0) : Int × Int)).1) ((B.getD j ((0, 0) : Int × Int)).2)).1), .int .i64 ((numW (W.getD j []) ((B.getD j ((0, 0) : Int × Int)).1) ((B.getD j ((0, 0) : Int × Int)).2)).2)]) (by kernel_rfl)) ?_)
        refine ⟨.inl (hS.pick [2]), ?_⟩
        refine K.DW.q 13 (by kernel_rfl) rfl rfl (by kernel_rfl) rfl (fun w hS => K.QR.k (v := .int .i64 ((numW (W.getD j []) ((B.getD j ((0, 0) : Int × Int)).1) ((B.getD j ((0, 0) : Int × Int)).2)).1)) (by kernel_rfl)) (hS.pick [2]) ?_
        refine K.DW.q 14 (by kernel_rfl) rfl rfl (by kernel_rfl) rfl (fun w hS => K.QR.k (v := .int .i64 ((numW (W.getD j []) ((B.getD j ((0, 0) : Int × Int)).1) ((B.getD j ((0, 0) : Int × Int)).2)).2)) (by kernel_rfl)) (hS.pick [2]) ?_
        refine K.DW.l 15 rfl (by kernel_rfl) rfl (K.OW.q rfl (K.QR.k (v := .int .i64 ((numW (W.getD j []) ((B.getD j ((0, 0) : Int × Int)).1) ((B.getD j ((0, 0) : Int × Int)).2)).1)) (by kernel_rfl)) ?_)
        refine ⟨.inl (hS.pick [2]), ?_⟩
        refine K.DW.l 16 rfl (by kernel_rfl) rfl (K.OW.q rfl (K.QR.k (v := .int .i64 ((numW (W.getD j []) ((B.getD j ((0, 0) : Int × Int)).1) ((B.getD j ((0, 0) : Int × Int)).2)).2)) (by kernel_rfl)) ?_)
        refine ⟨.inl (hS.pick [2]), ?_⟩
        refine K.DW.done (by kernel_rfl) ?_
        refine K.thn_normal ?_
        refine K.KW.seq ?_
        refine K.KW.seq ?_
        -- 8 :82
        refine K.KW.region ?_
        refine K.RW.qs [.int .i64 ((numW (W.getD j []) ((B.getD j ((0, 0) : Int × Int)).1) ((B.getD j ((0, 0) : Int × Int)).2)).2)] (by kernel_rfl) ?_
        by_cases h_15 : ((numW (W.getD j []) ((B.getD j ((0, 0) : Int × Int)).1) ((B.getD j ((0, 0) : Int × Int)).2)).2 : Int) = (0 : Int)
        ·  -- yes
          refine K.RW.q rfl rfl (K.QR.nice (v := .bool (((numW (W.getD j []) ((B.getD j ((0, 0) : Int × Int)).1) ((B.getD j ((0, 0) : Int × Int)).2)).2 : Int) != (0 : Int))) (by kernel_rfl) (congrArg Value.bool (bne_eq_false_iff_eq.2 h_15))) ?_
          refine K.RW.nil ?_
          refine K.thn_normal ?_
          refine K.KW.ifF rfl ?_
          refine K.KW.skip ?_
          refine K.thn_normal ?_
          -- 10 :85
          refine K.KW.region ?_
          refine K.RW.qs [.slice q1 o.length c1, .int .i64 ((numW (W.getD j []) ((B.getD j ((0, 0) : Int × Int)).1) ((B.getD j ((0, 0) : Int × Int)).2)).1)] (by kernel_rfl) ?_
          refine K.RW.l rfl (K.OW.gbs [(0, .int .i64 ((numW (W.getD j []) ((B.getD j ((0, 0) : Int × Int)).1) ((B.getD j ((0, 0) : Int × Int)).2)).1))] [.int .i64 ((numW (W.getD j []) ((B.getD j ((0, 0) : Int × Int)).1) ((B.getD j ((0, 0) : Int × Int)).2)).1)] hS (fun w => K.bs_run (P := Tryd.prog) w 78 3 1 _ _ Tryd.underlying78 (by kernel_rfl)) ?_)
          clear hS; intro w r_16 g_17 hg_18 hS
          refine K.RW.l rfl (K.OW.gapp (P := Tryd.prog) (xs := (o).flatMap cI64) (z := .int .i64 0) (size := 1) (bytes := 8) 1 [.int .i64 ((numW (W.getD j []) ((B.getD j ((0, 0) : Int × Int)).1) ((B.getD j ((0, 0) : Int × Int)).2)).1)] hS x_9 ?_ (fun j u hj => (by rw [Nat.zero_add]; exact (hS.blk 0 rfl hg_18).cell hj)) (K.one_cells (by rfl)) (by rfl) Tryd.underlying78 (by kernel_rfl) rfl (by decide) (by unfold maxLen; omega) (by omega))
          clear hS; intro a_19 cap_20 w l_21 o_22 hS
          have ln_23 : ((o ++ [((numW (W.getD j []) ((B.getD j ((0, 0) : Int × Int)).1) ((B.getD j ((0, 0) : Int × Int)).2)).1 : Int)])).length = o.length + 1 := by rw [List.length_append]; rfl
          have o_22c := K.OwnG.cast (xs' := ((o ++ [((numW (W.getD j []) ((B.getD j ((0, 0) : Int × Int)).1) ((B.getD j ((0, 0) : Int × Int)).2)).1 : Int)])).flatMap cI64) o_22 rfl (K.fl_snoc cI64 o ((numW (W.getD j []) ((B.getD j ((0, 0) : Int × Int)).1) ((B.getD j ((0, 0) : Int × Int)).2)).1 : Int) rfl)
          replace hS : K.Sat w0 [g_17, l_21, gw, gb, fr] w := hS
          refine K.RW.qs [.slice a_19 (o.length + 1) cap_20] (by kernel_rfl) ?_
          refine K.RW.nil ?_
          refine K.blk_normal ?_
          refine K.thn_normal ?_
          -- 11 :80
          refine K.KW.region ?_
          refine K.RW.q rfl rfl (K.QR.n64 ((((j : Nat) : Int) : Int) + (1 : Int)) ((j + 1 : Nat) : Int) (by kernel_rfl) (by omega)) ?_
          refine K.RW.qs [.int .i64 ((j + 1 : Nat) : Int)] (by kernel_rfl) ?_
          refine K.RW.nil ?_
          refine K.thn_normal ?_
          refine ⟨_, ?_, j + 1, (o ++ [((numW (W.getD j []) ((B.getD j ((0, 0) : Int × Int)).1) ((B.getD j ((0, 0) : Int × Int)).2)).1 : Int)]), a_19, cap_20, l_21, rfl, ⟨by rfl, by rfl, congrArg (fun m_ => Value.slice a_19 m_ cap_20) (by first | rfl | (rw [List.length_append]; rfl) : o.length + 1 = ((o ++ [((numW (W.getD j []) ((B.getD j ((0, 0) : Int × Int)).1) ((B.getD j ((0, 0) : Int × Int)).2)).1 : Int)])).length), by rfl, by rfl, by rfl, by rfl, trivial⟩, (by omega), (K.all_snoc hE (by assumption)), (by rw [numsV_next, ho]; rfl), (K.OwnG.cast o_22c (by first | rfl | (rw [List.length_append]; rfl)) rfl), hS.pick [1, 2, 3, 4]⟩
          omega
        ·  -- no
          refine K.RW.q rfl rfl (K.QR.nice (v := .bool (((numW (W.getD j []) ((B.getD j ((0, 0) : Int × Int)).1) ((B.getD j ((0, 0) : Int × Int)).2)).2 : Int) != (0 : Int))) (by kernel_rfl) (congrArg Value.bool (bne_iff_ne.2 h_15))) ?_
          refine K.RW.nil ?_
          refine K.thn_normal ?_
          refine K.KW.ifT rfl ?_
          refine K.KW.seq ?_
          -- 9 :83
          refine K.KW.region ?_
          refine K.RW.qs [.int .i64 ((numW (W.getD j []) ((B.getD j ((0, 0) : Int × Int)).1) ((B.getD j ((0, 0) : Int × Int)).2)).2), .slice none 0 0, .int .i64 ((numW (W.getD j []) ((B.getD j ((0, 0) : Int × Int)).1) ((B.getD j ((0, 0) : Int × Int)).2)).2)] (by kernel_rfl) ?_
          refine K.RW.nil ?_
          refine K.thn_normal ?_
          refine K.KW.ret ?_
          refine K.thn_ret ?_
          refine K.blk_ret ?_
          refine K.thn_ret ?_
          refine K.thn_ret ?_
          refine K.blk_ret ?_
          refine K.thn_ret ?_
          have hbad := numsE_bad (W := W) (B := B) (i := j) (by omega) hE (by omega) (by assumption)
          refine ⟨.inr rfl, rfl, (.tuple #[.slice none 0 0, .int .i64 ((numW (W.getD j []) ((B.getD j ((0, 0) : Int × Int)).1) ((B.getD j ((0, 0) : Int × Int)).2)).2)]), K.res2 rfl rfl rfl, [gw, gb], ?_, hS.pick [1, 2, 3]⟩
          exact .inr ⟨by rw [hbad]; assumption, rfl, by rw [hbad]; rfl⟩
      ·  -- no
        refine K.RW.q rfl rfl (K.QR.nice (v := .bool (decide ((((j : Nat) : Int) : Int) < (((W.length : Nat) : Int) : Int)))) (by kernel_rfl) (congrArg Value.bool (decide_eq_false h_10))) ?_
        refine K.RW.nil ?_
        refine K.thn_normal ?_
        refine K.KW.seq ?_
        refine K.KW.ifF rfl ?_
        refine K.KW.exit ?_
        refine K.thn_exit ?_
        refine K.thn_exit ?_
        refine K.blk_hit ?_
        refine K.thn_normal ?_
        refine K.KW.seq ?_
        -- 12 :87
        refine K.KW.region ?_
        refine K.RW.qs [.slice q1 o.length c1, .slice q1 o.length c1, .int .i64 0] (by kernel_rfl) ?_
        refine K.RW.nil ?_
        refine K.thn_normal ?_
        refine K.KW.ret ?_
        have hj9 : j = W.length := by omega
        have hv : o = numsV W B := by rw [ho, hj9]; rfl
        refine ⟨.inr rfl, rfl, (.tuple #[.slice q1 o.length c1, .int .i64 0]), K.res2 rfl rfl rfl, [gw, gb, o1], ?_, hS.pick [1, 2, 0, 3]⟩
        exact .inl ⟨_, _, _, numsE_ok (by omega) (fun q hq => hE q (by omega)), rfl, by rw [← hv], by rw [← hv]; exact x_9⟩
  ·  -- no
    refine K.RW.q rfl rfl (K.QR.nice (v := .bool ((((W.length : Nat) : Int) : Int) != (((B.length : Nat) : Int) : Int))) (by kernel_rfl) (congrArg Value.bool (bne_iff_ne.2 h_1))) ?_
    refine K.RW.nil ?_
    refine K.thn_normal ?_
    refine K.KW.ifT rfl ?_
    refine K.KW.seq ?_
    -- 2 :77
    refine K.KW.region ?_
    refine K.RW.qs [.slice none 0 0, .int .i64 3] (by kernel_rfl) ?_
    refine K.RW.nil ?_
    refine K.thn_normal ?_
    refine K.KW.ret ?_
    refine K.thn_ret ?_
    refine ⟨.inr rfl, rfl, (.tuple #[.slice none 0 0, .int .i64 3]), K.res2 rfl rfl rfl, [gw, gb], ?_, hS.pick [0, 1, 2]⟩
    exact .inr ⟨by rw [numsE_len (by omega)]; decide, rfl, by rw [numsE_len (by omega)]⟩
set_option maxHeartbeats 1000000 in
set_option maxRecDepth 100000 in
theorem fields_ok (w0 : World) (k : Int) :
    K.GC Tryd.prog w0 84 #[.int .i64 k] [] (fun v post => post = [] ∧ ((k = 1 ∧ v = .tuple #[.bool false, .bool true]) ∨ (k = 2 ∧ v = .tuple #[.bool false, .bool false]) ∨ (k = 6 ∧ v = .tuple #[.bool true, .bool true]) ∨ ((¬ k = 1 ∧ ¬ k = 2 ∧ ¬ k = 6) ∧ v = .tuple #[.bool true, .bool false]))) := by
  refine K.GC.mk (n := 16) Tryd.func84 rfl rfl [.int .i64 k] rfl rfl ?_
  intro fr w hS
  replace hS : K.Sat w0 [fr] w := hS
  refine K.KW.seq ?_
  -- 0 :91
  refine K.KW.region ?_
  refine K.RW.qs [.bool false, .bool false] (by kernel_rfl) ?_
  refine K.RW.nil ?_
  refine K.thn_normal ?_
  refine K.KW.seq ?_
  -- 1 :92
  refine K.KW.region ?_
  refine K.RW.qs [.int .i64 k] (by kernel_rfl) ?_
  by_cases h_1 : (k : Int) = (1 : Int)
  ·  -- yes
    refine K.RW.q rfl rfl (K.QR.nice (v := .bool ((k : Int) != (1 : Int))) (by kernel_rfl) (congrArg Value.bool (bne_eq_false_iff_eq.2 h_1))) ?_
    refine K.RW.qs [.bool false] (by kernel_rfl) ?_
    refine K.RW.skip rfl (by kernel_rfl) ?_
    refine K.RW.skip rfl (by kernel_rfl) ?_
    refine K.RW.qs [.bool false, .int .i64 k] (by kernel_rfl) ?_
    refine K.RW.q rfl rfl (K.QR.nice (v := .bool ((k : Int) == (1 : Int))) (by kernel_rfl) (congrArg Value.bool (beq_iff_eq.2 h_1))) ?_
    refine K.RW.qs [.bool true] (by kernel_rfl) ?_
    refine K.RW.skip rfl (by kernel_rfl) ?_
    refine K.RW.skip rfl (by kernel_rfl) ?_
    refine K.RW.qs [.bool true, .bool false, .bool true] (by kernel_rfl) ?_
    refine K.RW.nil ?_
    refine K.thn_normal ?_
    refine K.KW.ret ?_
    refine ⟨.inr rfl, rfl, (.tuple #[.bool false, .bool true]), K.res2 rfl rfl rfl, [], ?_, hS.pick [0]⟩
    exact ⟨rfl, .inl ⟨by omega, rfl⟩⟩
  ·  -- no
    refine K.RW.q rfl rfl (K.QR.nice (v := .bool ((k : Int) != (1 : Int))) (by kernel_rfl) (congrArg Value.bool (bne_iff_ne.2 h_1))) ?_
    refine K.RW.qs [.bool true, .int .i64 k] (by kernel_rfl) ?_
    by_cases h_2 : (k : Int) = (2 : Int)
    ·  -- yes
      refine K.RW.q rfl (by kernel_rfl) (K.QR.nice (v := .bool ((k : Int) != (2 : Int))) (by kernel_rfl) (congrArg Value.bool (bne_eq_false_iff_eq.2 h_2))) ?_
      refine K.RW.qs [.bool false, .int .i64 k] (by kernel_rfl) ?_
      refine K.RW.q rfl rfl (K.QR.nice (v := .bool ((k : Int) == (1 : Int))) (by kernel_rfl) (congrArg Value.bool (beq_eq_false_iff_ne.2 h_1))) ?_
      refine K.RW.qs [.bool false, .int .i64 k] (by kernel_rfl) ?_
      by_cases h_3 : (k : Int) = (6 : Int)
      ·  -- yes
        refine K.RW.q rfl (by kernel_rfl) (K.QR.nice (v := .bool ((k : Int) == (6 : Int))) (by kernel_rfl) (congrArg Value.bool (beq_iff_eq.2 h_3))) ?_
        refine K.RW.qs [.bool true, .bool false, .bool true] (by kernel_rfl) ?_
        refine K.RW.nil ?_
        refine K.thn_normal ?_
        refine K.KW.ret ?_
        refine ⟨.inr rfl, rfl, (.tuple #[.bool false, .bool true]), K.res2 rfl rfl rfl, [], ?_, hS.pick [0]⟩
        exact ⟨rfl, .inl ⟨by omega, rfl⟩⟩
      ·  -- no
        refine K.RW.q rfl (by kernel_rfl) (K.QR.nice (v := .bool ((k : Int) == (6 : Int))) (by kernel_rfl) (congrArg Value.bool (beq_eq_false_iff_ne.2 h_3))) ?_
        refine K.RW.qs [.bool false, .bool false, .bool false] (by kernel_rfl) ?_
        refine K.RW.nil ?_
        refine K.thn_normal ?_
        refine K.KW.ret ?_
        refine ⟨.inr rfl, rfl, (.tuple #[.bool false, .bool false]), K.res2 rfl rfl rfl, [], ?_, hS.pick [0]⟩
        exact ⟨rfl, .inr (.inl ⟨by omega, rfl⟩)⟩
    ·  -- no
      refine K.RW.q rfl (by kernel_rfl) (K.QR.nice (v := .bool ((k : Int) != (2 : Int))) (by kernel_rfl) (congrArg Value.bool (bne_iff_ne.2 h_2))) ?_
      refine K.RW.qs [.bool true, .int .i64 k] (by kernel_rfl) ?_
      refine K.RW.q rfl rfl (K.QR.nice (v := .bool ((k : Int) == (1 : Int))) (by kernel_rfl) (congrArg Value.bool (beq_eq_false_iff_ne.2 h_1))) ?_
      refine K.RW.qs [.bool false, .int .i64 k] (by kernel_rfl) ?_
      by_cases h_4 : (k : Int) = (6 : Int)
      ·  -- yes
        refine K.RW.q rfl (by kernel_rfl) (K.QR.nice (v := .bool ((k : Int) == (6 : Int))) (by kernel_rfl) (congrArg Value.bool (beq_iff_eq.2 h_4))) ?_
        refine K.RW.qs [.bool true, .bool true, .bool true] (by kernel_rfl) ?_
        refine K.RW.nil ?_
        refine K.thn_normal ?_
        refine K.KW.ret ?_
        refine ⟨.inr rfl, rfl, (.tuple #[.bool true, .bool true]), K.res2 rfl rfl rfl, [], ?_, hS.pick [0]⟩
        exact ⟨rfl, .inr (.inr (.inl ⟨by omega, rfl⟩))⟩
      ·  -- no
        refine K.RW.q rfl (by kernel_rfl) (K.QR.nice (v := .bool ((k : Int) == (6 : Int))) (by kernel_rfl) (congrArg Value.bool (beq_eq_false_iff_ne.2 h_4))) ?_
        refine K.RW.qs [.bool false, .bool true, .bool false] (by kernel_rfl) ?_
        refine K.RW.nil ?_
        refine K.thn_normal ?_
        refine K.KW.ret ?_
        refine ⟨.inr rfl, rfl, (.tuple #[.bool true, .bool false]), K.res2 rfl rfl rfl, [], ?_, hS.pick [0]⟩
        exact ⟨rfl, .inr (.inr (.inr ⟨by omega, rfl⟩))⟩
end Go.Proofs.YtnehocjmgnhhhaaDoor
