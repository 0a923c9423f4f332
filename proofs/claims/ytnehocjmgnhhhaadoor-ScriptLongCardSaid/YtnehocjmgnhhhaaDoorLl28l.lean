import Derived.Test.YtnehocjmgnhhhaaDoorFpl28
/- The statement ScriptLong. -/
namespace Go.Proofs.YtnehocjmgnhhhaaDoor
open Go.RowKit
set_option linter.unusedVariables false
attribute [local irreducible] K.KW K.RW K.DW K.OW K.QR K.KC
set_option maxHeartbeats 8000000 in
set_option maxRecDepth 100000 in
theorem lawsl_ok (w0 : World) (by_ tm : Nat) (hby : by_ ≤ 255) (htm : tm ≤ 65535) :
    K.GC Tryd.prog w0 8 #[.int .u8 ((by_ : Nat) : Int), .int .u16 ((tm : Nat) : Int)] [] (fun v post => v = .bool true) := by
  refine K.GC.mk (n := 124) Tryd.func8 rfl rfl [.int .u8 ((by_ : Nat) : Int), .int .u16 ((tm : Nat) : Int)] rfl rfl ?_
  intro fr w hS
  replace hS : K.Sat w0 [fr] w := hS
  refine K.KW.seq ?_
  -- 0 :69
  refine K.KW.region ?_
  refine K.RW.qs [.bool false] (by kernel_rfl) ?_
  refine K.RW.nil ?_
  refine K.thn_normal ?_
  refine K.KW.seq ?_
  -- 1 :70
  refine K.KW.region ?_
  refine K.RW.qs [.int .u16 ((tm : Nat) : Int)] (by kernel_rfl) ?_
  refine K.RW.q rfl rfl (K.QR.nice (v := .int .i64 (IntKind.i64.wrap ((tm : Nat) : Int))) (by kernel_rfl) (congrArg (Value.int .i64) (IntWalk.i64_in _ (by omega)))) ?_
  refine K.RW.q rfl rfl (K.QR.turn (v := .int .i64 ((tm % 10000 : Nat) : Int)) (K.QR.remi64 (((tm : Nat) : Int) : Int) 10000 ((tm % 10000 : Nat) : Int) (by kernel_rfl) (by omega) (by omega)) (congrArg (Value.int .i64) (show (((tm % 10000 : Nat) : Int) : Int) = (((tm % 10000 : Nat) : Int) : Int) from by omega))) ?_
  refine K.RW.q rfl rfl (K.QR.n64 ((1 : Int) + (((tm % 10000 : Nat) : Int) : Int)) ((1 + tm % 10000 : Nat) : Int) (by kernel_rfl) (by omega)) ?_
  refine K.RW.qs [.int .i64 ((1 + tm % 10000 : Nat) : Int)] (by kernel_rfl) ?_
  refine K.RW.nil ?_
  refine K.thn_normal ?_
  refine K.KW.seq ?_
  -- 2 :71
  refine K.KW.region ?_
  refine K.RW.qs [.string (K.sb [])] (by kernel_rfl) ?_
  refine K.RW.nil ?_
  refine K.thn_normal ?_
  refine K.KW.seq ?_
  -- 3 :72
  refine K.KW.region ?_
  refine K.RW.qs [.int .i64 0] (by kernel_rfl) ?_
  refine K.RW.nil ?_
  refine K.thn_normal ?_
  refine K.KW.seq ?_
  -- 4 :73
  refine K.KW.region ?_
  refine K.RW.qs [.slice none 0 0] (by kernel_rfl) ?_
  refine K.RW.nil ?_
  refine K.thn_normal ?_
  refine K.KW.seq ?_
  refine K.KW.seq ?_
  -- 5 :74
  refine K.KW.region ?_
  refine K.RW.qs [.int .i64 0] (by kernel_rfl) ?_
  refine K.RW.nil ?_
  refine K.thn_normal ?_
  refine K.KW.block ?_
  refine K.KW.loop (fun m_ F_ w_ => ∃ (i : Nat) (D : List Nat), m_ = 40 - i ∧ K.Sl F_ [(0, .int .u8 ((by_ : Nat) : Int)), (1, .int .u16 ((tm : Nat) : Int)), (4, .bool false), (5, .int .i64 ((1 + tm % 10000 : Nat) : Int)), (6, .string (K.sb (stepT D))), (7, .int .i64 ((D.sum : Nat) : Int)), (8, .slice none 0 0), (9, .int .i64 ((i : Nat) : Int)), (124, undef)] ∧ i ≤ 40 ∧ D.sum ≤ 20000 ∧ (∀ d ∈ D, 1 ≤ d ∧ d ≤ 10000) ∧ (stepT D).length ≤ 30 * i ∧ K.Sat w0 [fr] w_) ((fun (i : Nat) (D : List Nat) => 40 - i) 0 []) ?_ ?_
  · -- begins
    exact ⟨0, [], rfl, ⟨by rfl, by rfl, by rfl, by rfl, by rfl, by rfl, by rfl, by rfl, by rfl, trivial⟩, (by omega), (by simp), (by simp), (by simp [stepT_nil]), hS.pick [0]⟩
  · -- a round
    clear hS
    intro m_1 F_2 w hI
    obtain ⟨i, D, rfl, sl_3, p_4, hsum, hD, hTl, hS⟩ := hI
    rw [← K.Sl.puts sl_3]; clear sl_3
    refine K.KW.seq ?_
    refine K.KW.seq ?_
    -- 6 :74
    refine K.KW.region ?_
    refine K.RW.qs [.int .i64 ((D.sum : Nat) : Int)] (by kernel_rfl) ?_
    by_cases h_5 : (((D.sum : Nat) : Int) : Int) < (20000 : Int)
    ·  -- yes
      refine K.RW.q rfl rfl (K.QR.nice (v := .bool (decide ((((D.sum : Nat) : Int) : Int) < (20000 : Int)))) (by kernel_rfl) (congrArg Value.bool (decide_eq_true h_5))) ?_
      refine K.RW.qs [.bool true, .int .i64 ((i : Nat) : Int)] (by kernel_rfl) ?_
      by_cases h_6 : (((i : Nat) : Int) : Int) < (40 : Int)
      ·  -- yes
        refine K.RW.q rfl (by kernel_rfl) (K.QR.nice (v := .bool (decide ((((i : Nat) : Int) : Int) < (40 : Int)))) (by kernel_rfl) (congrArg Value.bool (decide_eq_true h_6))) ?_
        refine K.RW.qs [.bool true] (by kernel_rfl) ?_
        refine K.RW.nil ?_
        refine K.thn_normal ?_
        refine K.KW.ifT rfl ?_
        refine K.KW.skip ?_
        refine K.thn_normal ?_
        refine K.KW.seq ?_
        refine K.KW.block ?_
        refine K.KW.seq ?_
        -- 8 :75
        refine K.KW.region ?_
        refine K.RW.qs [.int .i64 ((1 + tm % 10000 : Nat) : Int), .int .i64 ((D.sum : Nat) : Int)] (by kernel_rfl) ?_
        refine K.RW.q rfl rfl (K.QR.turn (v := .int .i64 ((20000 : Int) - (((D.sum : Nat) : Int) : Int))) (K.QR.n64 ((20000 : Int) - (((D.sum : Nat) : Int) : Int)) ((20000 : Int) - (((D.sum : Nat) : Int) : Int)) (by kernel_rfl) (by omega)) (congrArg (Value.int .i64) (show ((20000 : Int) - (((D.sum : Nat) : Int) : Int) : Int) = (((20000 - D.sum : Nat) : Int) : Int) from by omega))) ?_
        by_cases h_7 : (((20000 - D.sum : Nat) : Int) : Int) < (((1 + tm % 10000 : Nat) : Int) : Int)
        ·  -- yes
          refine K.RW.q rfl rfl (K.QR.min2 ((20000 - D.sum : Nat) : Int) rfl rfl rfl (by omega)) ?_
          refine K.RW.qs [.int .i64 ((20000 - D.sum : Nat) : Int)] (by kernel_rfl) ?_
          refine K.RW.nil ?_
          refine K.thn_normal ?_
          refine K.KW.seq ?_
          refine K.KW.seq ?_
          -- 9 :76
          refine K.KW.region ?_
          refine K.RW.qs [.int .i64 ((i : Nat) : Int)] (by kernel_rfl) ?_
          by_cases h_8 : (((i : Nat) : Int) : Int) = (39 : Int)
          ·  -- yes
            refine K.RW.q rfl rfl (K.QR.nice (v := .bool ((((i : Nat) : Int) : Int) == (39 : Int))) (by kernel_rfl) (congrArg Value.bool (beq_iff_eq.2 h_8))) ?_
            refine K.RW.nil ?_
            refine K.thn_normal ?_
            refine K.KW.ifT rfl ?_
            -- 10 :77
            refine K.KW.region ?_
            refine K.RW.qs [.int .i64 ((D.sum : Nat) : Int)] (by kernel_rfl) ?_
            refine K.RW.q rfl rfl (K.QR.turn (v := .int .i64 ((20000 : Int) - (((D.sum : Nat) : Int) : Int))) (K.QR.n64 ((20000 : Int) - (((D.sum : Nat) : Int) : Int)) ((20000 : Int) - (((D.sum : Nat) : Int) : Int)) (by kernel_rfl) (by omega)) (congrArg (Value.int .i64) (show ((20000 : Int) - (((D.sum : Nat) : Int) : Int) : Int) = (((20000 - D.sum : Nat) : Int) : Int) from by omega))) ?_
            by_cases h_9 : (((20000 - D.sum : Nat) : Int) : Int) < (10000 : Int)
            ·  -- yes
              refine K.RW.q rfl rfl (K.QR.min2 ((20000 - D.sum : Nat) : Int) rfl rfl rfl (by omega)) ?_
              refine K.RW.qs [.int .i64 ((20000 - D.sum : Nat) : Int)] (by kernel_rfl) ?_
              refine K.RW.nil ?_
              refine K.thn_normal ?_
              refine K.KW.seq ?_
              -- 11 :79
              have hm1 : 1 ≤ 20000 - D.sum ∧ 20000 - D.sum ≤ 10000 := by omega
              have hq := dg_len20 (n := 20000 - D.sum) (by omega)
              refine K.KW.region ?_
              refine K.RW.qs [.string (K.sb (stepT D))] (by kernel_rfl) ?_
              refine K.RW.q rfl rfl (K.QR.sAdd (xs := (stepT D)) (ys := [115, 116, 101, 112, 32, 49, 32]) rfl rfl rfl (by (try simp only [List.length_append, List.length_cons, List.length_nil] at *); omega)) ?_
              refine K.RW.qs [.int .i64 ((20000 - D.sum : Nat) : Int)] (by kernel_rfl) ?_
              refine K.RW.l rfl (K.OW.gcall hS [] [0] [.int .i64 ((20000 - D.sum : Nat) : Int)] (rdigits_ok _ (20000 - D.sum) (by omega)) ?_)
              clear hS; rintro _ _ w ⟨rfl, rfl⟩ hS
              replace hS : K.Sat w0 [fr] w := hS
              refine K.RW.q rfl rfl (K.QR.sAdd (xs := ((stepT D) ++ ([115, 116, 101, 112, 32, 49, 32] : List UInt8))) (ys := (dg (20000 - D.sum))) rfl rfl rfl (by (try simp only [List.length_append, List.length_cons, List.length_nil] at *); omega)) ?_
              refine K.RW.q rfl rfl (K.QR.sAdd (xs := (((stepT D) ++ ([115, 116, 101, 112, 32, 49, 32] : List UInt8)) ++ (dg (20000 - D.sum)))) (ys := [10]) rfl rfl rfl (by (try simp only [List.length_append, List.length_cons, List.length_nil] at *); omega)) ?_
              refine K.RW.qs [.string (K.sb ((((stepT D) ++ ([115, 116, 101, 112, 32, 49, 32] : List UInt8)) ++ (dg (20000 - D.sum))) ++ ([10] : List UInt8)))] (by kernel_rfl) ?_
              refine K.RW.nil ?_
              refine K.thn_normal ?_
              -- 12 :80
              refine K.KW.region ?_
              refine K.RW.qs [.int .i64 ((D.sum : Nat) : Int), .int .i64 ((20000 - D.sum : Nat) : Int)] (by kernel_rfl) ?_
              refine K.RW.q rfl rfl (K.QR.n64 ((((D.sum : Nat) : Int) : Int) + (((20000 - D.sum : Nat) : Int) : Int)) ((D.sum + 20000 - D.sum : Nat) : Int) (by kernel_rfl) (by omega)) ?_
              refine K.RW.qs [.int .i64 ((D.sum + 20000 - D.sum : Nat) : Int)] (by kernel_rfl) ?_
              refine K.RW.nil ?_
              refine K.blk_normal ?_
              refine K.thn_normal ?_
              -- 7 :74
              refine K.KW.region ?_
              refine K.RW.qs [.int .i64 ((i : Nat) : Int)] (by kernel_rfl) ?_
              refine K.RW.q rfl rfl (K.QR.n64 ((((i : Nat) : Int) : Int) + (1 : Int)) ((i + 1 : Nat) : Int) (by kernel_rfl) (by omega)) ?_
              refine K.RW.qs [.int .i64 ((i + 1 : Nat) : Int)] (by kernel_rfl) ?_
              refine K.RW.nil ?_
              refine K.thn_normal ?_
              refine ⟨_, ?_, i + 1, (D ++ [20000 - D.sum]), rfl, ⟨by rfl, by rfl, by rfl, by rfl, congrArg (fun l_ => Value.string (K.sb l_)) (stepT_snoc D (20000 - D.sum)).symm, congrArg (fun n_ : Nat => Value.int .i64 ((n_ : Nat) : Int)) (by (rw [List.sum_append, List.sum_singleton] <;> omega) : D.sum + 20000 - D.sum = (D ++ [20000 - D.sum]).sum), by rfl, by rfl, by rfl, trivial⟩, (by omega), (by (rw [List.sum_append, List.sum_singleton]; omega)), (fun d hd => (List.mem_append.1 hd).elim (hD d) (fun h => by rw [List.mem_singleton.1 h]; exact hm1)), (by (rw [stepT_snoc]; simp only [List.length_append, List.length_cons, List.length_nil]; omega)), hS.pick [0]⟩
              omega
            ·  -- no
              refine K.RW.q rfl rfl (K.QR.min2 10000 rfl rfl rfl (by omega)) ?_
              refine K.RW.qs [.int .i64 10000] (by kernel_rfl) ?_
              refine K.RW.nil ?_
              refine K.thn_normal ?_
              refine K.KW.seq ?_
              -- 11 :79
              have hm1 : 1 ≤ 10000 ∧ 10000 ≤ 10000 := by omega
              have hq := dg_len20 (n := 10000) (by omega)
              refine K.KW.region ?_
              refine K.RW.qs [.string (K.sb (stepT D))] (by kernel_rfl) ?_
              refine K.RW.q rfl rfl (K.QR.sAdd (xs := (stepT D)) (ys := [115, 116, 101, 112, 32, 49, 32]) rfl rfl rfl (by (try simp only [List.length_append, List.length_cons, List.length_nil] at *); omega)) ?_
              refine K.RW.qs [.int .i64 10000] (by kernel_rfl) ?_
              refine K.RW.l rfl (K.OW.gcall hS [] [0] [.int .i64 10000] (rdigits_ok _ 10000 (by omega)) ?_)
              clear hS; rintro _ _ w ⟨rfl, rfl⟩ hS
              replace hS : K.Sat w0 [fr] w := hS
              refine K.RW.q rfl rfl (K.QR.sAdd (xs := ((stepT D) ++ ([115, 116, 101, 112, 32, 49, 32] : List UInt8))) (ys := (dg 10000)) rfl rfl rfl (by (try simp only [List.length_append, List.length_cons, List.length_nil] at *); omega)) ?_
              refine K.RW.q rfl rfl (K.QR.sAdd (xs := (((stepT D) ++ ([115, 116, 101, 112, 32, 49, 32] : List UInt8)) ++ (dg 10000))) (ys := [10]) rfl rfl rfl (by (try simp only [List.length_append, List.length_cons, List.length_nil] at *); omega)) ?_
              refine K.RW.qs [.string (K.sb ((((stepT D) ++ ([115, 116, 101, 112, 32, 49, 32] : List UInt8)) ++ (dg 10000)) ++ ([10] : List UInt8)))] (by kernel_rfl) ?_
              refine K.RW.nil ?_
              refine K.thn_normal ?_
              -- 12 :80
              refine K.KW.region ?_
              refine K.RW.qs [.int .i64 ((D.sum : Nat) : Int), .int .i64 10000] (by kernel_rfl) ?_
              refine K.RW.q rfl rfl (K.QR.n64 ((((D.sum : Nat) : Int) : Int) + (10000 : Int)) ((D.sum + 10000 : Nat) : Int) (by kernel_rfl) (by omega)) ?_
              refine K.RW.qs [.int .i64 ((D.sum + 10000 : Nat) : Int)] (by kernel_rfl) ?_
              refine K.RW.nil ?_
              refine K.blk_normal ?_
              refine K.thn_normal ?_
              -- 7 :74
              refine K.KW.region ?_
              refine K.RW.qs [.int .i64 ((i : Nat) : Int)] (by kernel_rfl) ?_
              refine K.RW.q rfl rfl (K.QR.n64 ((((i : Nat) : Int) : Int) + (1 : Int)) ((i + 1 : Nat) : Int) (by kernel_rfl) (by omega)) ?_
              refine K.RW.qs [.int .i64 ((i + 1 : Nat) : Int)] (by kernel_rfl) ?_
              refine K.RW.nil ?_
              refine K.thn_normal ?_
              refine ⟨_, ?_, i + 1, (D ++ [10000]), rfl, ⟨by rfl, by rfl, by rfl, by rfl, congrArg (fun l_ => Value.string (K.sb l_)) (stepT_snoc D 10000).symm, congrArg (fun n_ : Nat => Value.int .i64 ((n_ : Nat) : Int)) (by (rw [List.sum_append, List.sum_singleton] <;> omega) : D.sum + 10000 = (D ++ [10000]).sum), by rfl, by rfl, by rfl, trivial⟩, (by omega), (by (rw [List.sum_append, List.sum_singleton]; omega)), (fun d hd => (List.mem_append.1 hd).elim (hD d) (fun h => by rw [List.mem_singleton.1 h]; exact hm1)), (by (rw [stepT_snoc]; simp only [List.length_append, List.length_cons, List.length_nil]; omega)), hS.pick [0]⟩
              omega
          ·  -- no
            refine K.RW.q rfl rfl (K.QR.nice (v := .bool ((((i : Nat) : Int) : Int) == (39 : Int))) (by kernel_rfl) (congrArg Value.bool (beq_eq_false_iff_ne.2 h_8))) ?_
            refine K.RW.nil ?_
            refine K.thn_normal ?_
            refine K.KW.ifF rfl ?_
            refine K.KW.skip ?_
            refine K.thn_normal ?_
            refine K.KW.seq ?_
            -- 11 :79
            have hm1 : 1 ≤ 20000 - D.sum ∧ 20000 - D.sum ≤ 10000 := by omega
            have hq := dg_len20 (n := 20000 - D.sum) (by omega)
            refine K.KW.region ?_
            refine K.RW.qs [.string (K.sb (stepT D))] (by kernel_rfl) ?_
            refine K.RW.q rfl rfl (K.QR.sAdd (xs := (stepT D)) (ys := [115, 116, 101, 112, 32, 49, 32]) rfl rfl rfl (by (try simp only [List.length_append, List.length_cons, List.length_nil] at *); omega)) ?_
            refine K.RW.qs [.int .i64 ((20000 - D.sum : Nat) : Int)] (by kernel_rfl) ?_
            refine K.RW.l rfl (K.OW.gcall hS [] [0] [.int .i64 ((20000 - D.sum : Nat) : Int)] (rdigits_ok _ (20000 - D.sum) (by omega)) ?_)
            clear hS; rintro _ _ w ⟨rfl, rfl⟩ hS
            replace hS : K.Sat w0 [fr] w := hS
            refine K.RW.q rfl rfl (K.QR.sAdd (xs := ((stepT D) ++ ([115, 116, 101, 112, 32, 49, 32] : List UInt8))) (ys := (dg (20000 - D.sum))) rfl rfl rfl (by (try simp only [List.length_append, List.length_cons, List.length_nil] at *); omega)) ?_
            refine K.RW.q rfl rfl (K.QR.sAdd (xs := (((stepT D) ++ ([115, 116, 101, 112, 32, 49, 32] : List UInt8)) ++ (dg (20000 - D.sum)))) (ys := [10]) rfl rfl rfl (by (try simp only [List.length_append, List.length_cons, List.length_nil] at *); omega)) ?_
            refine K.RW.qs [.string (K.sb ((((stepT D) ++ ([115, 116, 101, 112, 32, 49, 32] : List UInt8)) ++ (dg (20000 - D.sum))) ++ ([10] : List UInt8)))] (by kernel_rfl) ?_
            refine K.RW.nil ?_
            refine K.thn_normal ?_
            -- 12 :80
            refine K.KW.region ?_
            refine K.RW.qs [.int .i64 ((D.sum : Nat) : Int), .int .i64 ((20000 - D.sum : Nat) : Int)] (by kernel_rfl) ?_
            refine K.RW.q rfl rfl (K.QR.n64 ((((D.sum : Nat) : Int) : Int) + (((20000 - D.sum : Nat) : Int) : Int)) ((D.sum + 20000 - D.sum : Nat) : Int) (by kernel_rfl) (by omega)) ?_
            refine K.RW.qs [.int .i64 ((D.sum + 20000 - D.sum : Nat) : Int)] (by kernel_rfl) ?_
            refine K.RW.nil ?_
            refine K.blk_normal ?_
            refine K.thn_normal ?_
            -- 7 :74
            refine K.KW.region ?_
            refine K.RW.qs [.int .i64 ((i : Nat) : Int)] (by kernel_rfl) ?_
            refine K.RW.q rfl rfl (K.QR.n64 ((((i : Nat) : Int) : Int) + (1 : Int)) ((i + 1 : Nat) : Int) (by kernel_rfl) (by omega)) ?_
            refine K.RW.qs [.int .i64 ((i + 1 : Nat) : Int)] (by kernel_rfl) ?_
            refine K.RW.nil ?_
            refine K.thn_normal ?_
            refine ⟨_, ?_, i + 1, (D ++ [20000 - D.sum]), rfl, ⟨by rfl, by rfl, by rfl, by rfl, congrArg (fun l_ => Value.string (K.sb l_)) (stepT_snoc D (20000 - D.sum)).symm, congrArg (fun n_ : Nat => Value.int .i64 ((n_ : Nat) : Int)) (by (rw [List.sum_append, List.sum_singleton] <;> omega) : D.sum + 20000 - D.sum = (D ++ [20000 - D.sum]).sum), by rfl, by rfl, by rfl, trivial⟩, (by omega), (by (rw [List.sum_append, List.sum_singleton]; omega)), (fun d hd => (List.mem_append.1 hd).elim (hD d) (fun h => by rw [List.mem_singleton.1 h]; exact hm1)), (by (rw [stepT_snoc]; simp only [List.length_append, List.length_cons, List.length_nil]; omega)), hS.pick [0]⟩
            omega
        ·  -- no
          refine K.RW.q rfl rfl (K.QR.min2 ((1 + tm % 10000 : Nat) : Int) rfl rfl rfl (by omega)) ?_
          refine K.RW.qs [.int .i64 ((1 + tm % 10000 : Nat) : Int)] (by kernel_rfl) ?_
          refine K.RW.nil ?_
          refine K.thn_normal ?_
          refine K.KW.seq ?_
          refine K.KW.seq ?_
          -- 9 :76
          refine K.KW.region ?_
          refine K.RW.qs [.int .i64 ((i : Nat) : Int)] (by kernel_rfl) ?_
          by_cases h_10 : (((i : Nat) : Int) : Int) = (39 : Int)
          ·  -- yes
            refine K.RW.q rfl rfl (K.QR.nice (v := .bool ((((i : Nat) : Int) : Int) == (39 : Int))) (by kernel_rfl) (congrArg Value.bool (beq_iff_eq.2 h_10))) ?_
            refine K.RW.nil ?_
            refine K.thn_normal ?_
            refine K.KW.ifT rfl ?_
            -- 10 :77
            refine K.KW.region ?_
            refine K.RW.qs [.int .i64 ((D.sum : Nat) : Int)] (by kernel_rfl) ?_
            refine K.RW.q rfl rfl (K.QR.turn (v := .int .i64 ((20000 : Int) - (((D.sum : Nat) : Int) : Int))) (K.QR.n64 ((20000 : Int) - (((D.sum : Nat) : Int) : Int)) ((20000 : Int) - (((D.sum : Nat) : Int) : Int)) (by kernel_rfl) (by omega)) (congrArg (Value.int .i64) (show ((20000 : Int) - (((D.sum : Nat) : Int) : Int) : Int) = (((20000 - D.sum : Nat) : Int) : Int) from by omega))) ?_
            by_cases h_11 : (((20000 - D.sum : Nat) : Int) : Int) < (10000 : Int)
            ·  -- yes
              refine K.RW.q rfl rfl (K.QR.min2 ((20000 - D.sum : Nat) : Int) rfl rfl rfl (by omega)) ?_
              refine K.RW.qs [.int .i64 ((20000 - D.sum : Nat) : Int)] (by kernel_rfl) ?_
              refine K.RW.nil ?_
              refine K.thn_normal ?_
              refine K.KW.seq ?_
              -- 11 :79
              have hm1 : 1 ≤ 20000 - D.sum ∧ 20000 - D.sum ≤ 10000 := by omega
              have hq := dg_len20 (n := 20000 - D.sum) (by omega)
              refine K.KW.region ?_
              refine K.RW.qs [.string (K.sb (stepT D))] (by kernel_rfl) ?_
              refine K.RW.q rfl rfl (K.QR.sAdd (xs := (stepT D)) (ys := [115, 116, 101, 112, 32, 49, 32]) rfl rfl rfl (by (try simp only [List.length_append, List.length_cons, List.length_nil] at *); omega)) ?_
              refine K.RW.qs [.int .i64 ((20000 - D.sum : Nat) : Int)] (by kernel_rfl) ?_
              refine K.RW.l rfl (K.OW.gcall hS [] [0] [.int .i64 ((20000 - D.sum : Nat) : Int)] (rdigits_ok _ (20000 - D.sum) (by omega)) ?_)
              clear hS; rintro _ _ w ⟨rfl, rfl⟩ hS
              replace hS : K.Sat w0 [fr] w := hS
              refine K.RW.q rfl rfl (K.QR.sAdd (xs := ((stepT D) ++ ([115, 116, 101, 112, 32, 49, 32] : List UInt8))) (ys := (dg (20000 - D.sum))) rfl rfl rfl (by (try simp only [List.length_append, List.length_cons, List.length_nil] at *); omega)) ?_
              refine K.RW.q rfl rfl (K.QR.sAdd (xs := (((stepT D) ++ ([115, 116, 101, 112, 32, 49, 32] : List UInt8)) ++ (dg (20000 - D.sum)))) (ys := [10]) rfl rfl rfl (by (try simp only [List.length_append, List.length_cons, List.length_nil] at *); omega)) ?_
              refine K.RW.qs [.string (K.sb ((((stepT D) ++ ([115, 116, 101, 112, 32, 49, 32] : List UInt8)) ++ (dg (20000 - D.sum))) ++ ([10] : List UInt8)))] (by kernel_rfl) ?_
              refine K.RW.nil ?_
              refine K.thn_normal ?_
              -- 12 :80
              refine K.KW.region ?_
              refine K.RW.qs [.int .i64 ((D.sum : Nat) : Int), .int .i64 ((20000 - D.sum : Nat) : Int)] (by kernel_rfl) ?_
              refine K.RW.q rfl rfl (K.QR.n64 ((((D.sum : Nat) : Int) : Int) + (((20000 - D.sum : Nat) : Int) : Int)) ((D.sum + 20000 - D.sum : Nat) : Int) (by kernel_rfl) (by omega)) ?_
              refine K.RW.qs [.int .i64 ((D.sum + 20000 - D.sum : Nat) : Int)] (by kernel_rfl) ?_
              refine K.RW.nil ?_
              refine K.blk_normal ?_
              refine K.thn_normal ?_
              -- 7 :74
              refine K.KW.region ?_
              refine K.RW.qs [.int .i64 ((i : Nat) : Int)] (by kernel_rfl) ?_
              refine K.RW.q rfl rfl (K.QR.n64 ((((i : Nat) : Int) : Int) + (1 : Int)) ((i + 1 : Nat) : Int) (by kernel_rfl) (by omega)) ?_
              refine K.RW.qs [.int .i64 ((i + 1 : Nat) : Int)] (by kernel_rfl) ?_
              refine K.RW.nil ?_
              refine K.thn_normal ?_
              refine ⟨_, ?_, i + 1, (D ++ [20000 - D.sum]), rfl, ⟨by rfl, by rfl, by rfl, by rfl, congrArg (fun l_ => Value.string (K.sb l_)) (stepT_snoc D (20000 - D.sum)).symm, congrArg (fun n_ : Nat => Value.int .i64 ((n_ : Nat) : Int)) (by (rw [List.sum_append, List.sum_singleton] <;> omega) : D.sum + 20000 - D.sum = (D ++ [20000 - D.sum]).sum), by rfl, by rfl, by rfl, trivial⟩, (by omega), (by (rw [List.sum_append, List.sum_singleton]; omega)), (fun d hd => (List.mem_append.1 hd).elim (hD d) (fun h => by rw [List.mem_singleton.1 h]; exact hm1)), (by (rw [stepT_snoc]; simp only [List.length_append, List.length_cons, List.length_nil]; omega)), hS.pick [0]⟩
              omega
            ·  -- no
              refine K.RW.q rfl rfl (K.QR.min2 10000 rfl rfl rfl (by omega)) ?_
              refine K.RW.qs [.int .i64 10000] (by kernel_rfl) ?_
              refine K.RW.nil ?_
              refine K.thn_normal ?_
              refine K.KW.seq ?_
              -- 11 :79
              have hm1 : 1 ≤ 10000 ∧ 10000 ≤ 10000 := by omega
              have hq := dg_len20 (n := 10000) (by omega)
              refine K.KW.region ?_
              refine K.RW.qs [.string (K.sb (stepT D))] (by kernel_rfl) ?_
              refine K.RW.q rfl rfl (K.QR.sAdd (xs := (stepT D)) (ys := [115, 116, 101, 112, 32, 49, 32]) rfl rfl rfl (by (try simp only [List.length_append, List.length_cons, List.length_nil] at *); omega)) ?_
              refine K.RW.qs [.int .i64 10000] (by kernel_rfl) ?_
              refine K.RW.l rfl (K.OW.gcall hS [] [0] [.int .i64 10000] (rdigits_ok _ 10000 (by omega)) ?_)
              clear hS; rintro _ _ w ⟨rfl, rfl⟩ hS
              replace hS : K.Sat w0 [fr] w := hS
              refine K.RW.q rfl rfl (K.QR.sAdd (xs := ((stepT D) ++ ([115, 116, 101, 112, 32, 49, 32] : List UInt8))) (ys := (dg 10000)) rfl rfl rfl (by (try simp only [List.length_append, List.length_cons, List.length_nil] at *); omega)) ?_
              refine K.RW.q rfl rfl (K.QR.sAdd (xs := (((stepT D) ++ ([115, 116, 101, 112, 32, 49, 32] : List UInt8)) ++ (dg 10000))) (ys := [10]) rfl rfl rfl (by (try simp only [List.length_append, List.length_cons, List.length_nil] at *); omega)) ?_
              refine K.RW.qs [.string (K.sb ((((stepT D) ++ ([115, 116, 101, 112, 32, 49, 32] : List UInt8)) ++ (dg 10000)) ++ ([10] : List UInt8)))] (by kernel_rfl) ?_
              refine K.RW.nil ?_
              refine K.thn_normal ?_
              -- 12 :80
              refine K.KW.region ?_
              refine K.RW.qs [.int .i64 ((D.sum : Nat) : Int), .int .i64 10000] (by kernel_rfl) ?_
              refine K.RW.q rfl rfl (K.QR.n64 ((((D.sum : Nat) : Int) : Int) + (10000 : Int)) ((D.sum + 10000 : Nat) : Int) (by kernel_rfl) (by omega)) ?_
              refine K.RW.qs [.int .i64 ((D.sum + 10000 : Nat) : Int)] (by kernel_rfl) ?_
              refine K.RW.nil ?_
              refine K.blk_normal ?_
              refine K.thn_normal ?_
              -- 7 :74
              refine K.KW.region ?_
              refine K.RW.qs [.int .i64 ((i : Nat) : Int)] (by kernel_rfl) ?_
              refine K.RW.q rfl rfl (K.QR.n64 ((((i : Nat) : Int) : Int) + (1 : Int)) ((i + 1 : Nat) : Int) (by kernel_rfl) (by omega)) ?_
              refine K.RW.qs [.int .i64 ((i + 1 : Nat) : Int)] (by kernel_rfl) ?_
              refine K.RW.nil ?_
              refine K.thn_normal ?_
              refine ⟨_, ?_, i + 1, (D ++ [10000]), rfl, ⟨by rfl, by rfl, by rfl, by rfl, congrArg (fun l_ => Value.string (K.sb l_)) (stepT_snoc D 10000).symm, congrArg (fun n_ : Nat => Value.int .i64 ((n_ : Nat) : Int)) (by (rw [List.sum_append, List.sum_singleton] <;> omega) : D.sum + 10000 = (D ++ [10000]).sum), by rfl, by rfl, by rfl, trivial⟩, (by omega), (by (rw [List.sum_append, List.sum_singleton]; omega)), (fun d hd => (List.mem_append.1 hd).elim (hD d) (fun h => by rw [List.mem_singleton.1 h]; exact hm1)), (by (rw [stepT_snoc]; simp only [List.length_append, List.length_cons, List.length_nil]; omega)), hS.pick [0]⟩
              omega
          ·  -- no
            refine K.RW.q rfl rfl (K.QR.nice (v := .bool ((((i : Nat) : Int) : Int) == (39 : Int))) (by kernel_rfl) (congrArg Value.bool (beq_eq_false_iff_ne.2 h_10))) ?_
            refine K.RW.nil ?_
            refine K.thn_normal ?_
            refine K.KW.ifF rfl ?_
            refine K.KW.skip ?_
            refine K.thn_normal ?_
            refine K.KW.seq ?_
            -- 11 :79
            have hm1 : 1 ≤ 1 + tm % 10000 ∧ 1 + tm % 10000 ≤ 10000 := by omega
            have hq := dg_len20 (n := 1 + tm % 10000) (by omega)
            refine K.KW.region ?_
            refine K.RW.qs [.string (K.sb (stepT D))] (by kernel_rfl) ?_
            refine K.RW.q rfl rfl (K.QR.sAdd (xs := (stepT D)) (ys := [115, 116, 101, 112, 32, 49, 32]) rfl rfl rfl (by (try simp only [List.length_append, List.length_cons, List.length_nil] at *); omega)) ?_
            refine K.RW.qs [.int .i64 ((1 + tm % 10000 : Nat) : Int)] (by kernel_rfl) ?_
            refine K.RW.l rfl (K.OW.gcall hS [] [0] [.int .i64 ((1 + tm % 10000 : Nat) : Int)] (rdigits_ok _ (1 + tm % 10000) (by omega)) ?_)
            clear hS; rintro _ _ w ⟨rfl, rfl⟩ hS
            replace hS : K.Sat w0 [fr] w := hS
            refine K.RW.q rfl rfl (K.QR.sAdd (xs := ((stepT D) ++ ([115, 116, 101, 112, 32, 49, 32] : List UInt8))) (ys := (dg (1 + tm % 10000))) rfl rfl rfl (by (try simp only [List.length_append, List.length_cons, List.length_nil] at *); omega)) ?_
            refine K.RW.q rfl rfl (K.QR.sAdd (xs := (((stepT D) ++ ([115, 116, 101, 112, 32, 49, 32] : List UInt8)) ++ (dg (1 + tm % 10000)))) (ys := [10]) rfl rfl rfl (by (try simp only [List.length_append, List.length_cons, List.length_nil] at *); omega)) ?_
            refine K.RW.qs [.string (K.sb ((((stepT D) ++ ([115, 116, 101, 112, 32, 49, 32] : List UInt8)) ++ (dg (1 + tm % 10000))) ++ ([10] : List UInt8)))] (by kernel_rfl) ?_
            refine K.RW.nil ?_
            refine K.thn_normal ?_
            -- 12 :80
            refine K.KW.region ?_
            refine K.RW.qs [.int .i64 ((D.sum : Nat) : Int), .int .i64 ((1 + tm % 10000 : Nat) : Int)] (by kernel_rfl) ?_
            refine K.RW.q rfl rfl (K.QR.n64 ((((D.sum : Nat) : Int) : Int) + (((1 + tm % 10000 : Nat) : Int) : Int)) ((D.sum + 1 + tm % 10000 : Nat) : Int) (by kernel_rfl) (by omega)) ?_
            refine K.RW.qs [.int .i64 ((D.sum + 1 + tm % 10000 : Nat) : Int)] (by kernel_rfl) ?_
            refine K.RW.nil ?_
            refine K.blk_normal ?_
            refine K.thn_normal ?_
            -- 7 :74
            refine K.KW.region ?_
            refine K.RW.qs [.int .i64 ((i : Nat) : Int)] (by kernel_rfl) ?_
            refine K.RW.q rfl rfl (K.QR.n64 ((((i : Nat) : Int) : Int) + (1 : Int)) ((i + 1 : Nat) : Int) (by kernel_rfl) (by omega)) ?_
            refine K.RW.qs [.int .i64 ((i + 1 : Nat) : Int)] (by kernel_rfl) ?_
            refine K.RW.nil ?_
            refine K.thn_normal ?_
            refine ⟨_, ?_, i + 1, (D ++ [1 + tm % 10000]), rfl, ⟨by rfl, by rfl, by rfl, by rfl, congrArg (fun l_ => Value.string (K.sb l_)) (stepT_snoc D (1 + tm % 10000)).symm, congrArg (fun n_ : Nat => Value.int .i64 ((n_ : Nat) : Int)) (by (rw [List.sum_append, List.sum_singleton] <;> omega) : D.sum + 1 + tm % 10000 = (D ++ [1 + tm % 10000]).sum), by rfl, by rfl, by rfl, trivial⟩, (by omega), (by (rw [List.sum_append, List.sum_singleton]; omega)), (fun d hd => (List.mem_append.1 hd).elim (hD d) (fun h => by rw [List.mem_singleton.1 h]; exact hm1)), (by (rw [stepT_snoc]; simp only [List.length_append, List.length_cons, List.length_nil]; omega)), hS.pick [0]⟩
            omega
      ·  -- no
        refine K.RW.q rfl (by kernel_rfl) (K.QR.nice (v := .bool (decide ((((i : Nat) : Int) : Int) < (40 : Int)))) (by kernel_rfl) (congrArg Value.bool (decide_eq_false h_6))) ?_
        refine K.RW.qs [.bool false] (by kernel_rfl) ?_
        refine K.RW.nil ?_
        refine K.thn_normal ?_
        refine K.KW.ifF rfl ?_
        refine K.KW.exit ?_
        refine K.thn_exit ?_
        refine K.thn_exit ?_
        refine K.blk_hit ?_
        refine K.thn_normal ?_
        refine K.KW.seq ?_
        refine K.KW.seq ?_
        -- 13 :82
        refine K.KW.region ?_
        refine K.RW.qs [.int .i64 0] (by kernel_rfl) ?_
        refine K.RW.nil ?_
        refine K.thn_normal ?_
        refine K.KW.block ?_
        obtain ⟨z_12, hz_13⟩ : ∃ z : K.Cs, z = [] := ⟨_, rfl⟩
        replace hS : K.Sat w0 [z_12, fr] w := hS.of (by simp [hz_13])
        have o_14 : K.OwnG z_12 57 6 none 0 0 [] := by rw [hz_13]; exact K.OwnG.nil _ _
        refine K.KW.loop (fun m_ F_ w_ => ∃ (j : Nat) (q1 : Option Addr) (c1 : Nat) (o1 : K.Cs), m_ = 20001 + by_ - j ∧ K.Sl F_ [(0, .int .u8 ((by_ : Nat) : Int)), (1, .int .u16 ((tm : Nat) : Int)), (4, .bool false), (6, .string (K.sb (stepT D))), (7, .int .i64 ((D.sum : Nat) : Int)), (8, .slice q1 ((List.replicate j actC).length) c1), (11, .int .i64 ((j : Nat) : Int)), (124, undef)] ∧ j ≤ 20001 + by_ ∧ K.OwnG o1 57 6 q1 ((List.replicate j actC).length) c1 (((List.replicate j actC)).flatMap cAct) ∧ K.Sat w0 [o1, fr] w_) ((fun (j : Nat) (q1 : Option Addr) (c1 : Nat) => 20001 + by_ - j) 0 none 0) ?_ ?_
        · -- begins
          exact ⟨0, none, 0, z_12, rfl, ⟨by rfl, by rfl, by rfl, by rfl, by rfl, by rfl, by rfl, by rfl, trivial⟩, (by omega), o_14, hS.pick [0, 1]⟩
        · -- a round
          clear hS
          intro m_15 F_16 w hI
          obtain ⟨j, q1, c1, o1, rfl, sl_17, p_18, x_19, hS⟩ := hI
          rw [← K.Sl.puts sl_17]; clear sl_17
          have hjl0 : (List.replicate j actC).length = j := List.length_replicate
          refine K.KW.seq ?_
          refine K.KW.seq ?_
          -- 14 :82
          refine K.KW.region ?_
          refine K.RW.qs [.int .i64 ((j : Nat) : Int), .int .u8 ((by_ : Nat) : Int)] (by kernel_rfl) ?_
          refine K.RW.q rfl rfl (K.QR.nice (v := .int .i64 (IntKind.i64.wrap ((by_ : Nat) : Int))) (by kernel_rfl) (congrArg (Value.int .i64) (IntWalk.i64_in _ (by omega)))) ?_
          refine K.RW.q rfl rfl (K.QR.n64 ((20001 : Int) + (((by_ : Nat) : Int) : Int)) ((20001 + by_ : Nat) : Int) (by kernel_rfl) (by omega)) ?_
          by_cases h_20 : (((j : Nat) : Int) : Int) < (((20001 + by_ : Nat) : Int) : Int)
          ·  -- yes
            refine K.RW.q rfl rfl (K.QR.nice (v := .bool (decide ((((j : Nat) : Int) : Int) < (((20001 + by_ : Nat) : Int) : Int)))) (by kernel_rfl) (congrArg Value.bool (decide_eq_true h_20))) ?_
            refine K.RW.nil ?_
            refine K.thn_normal ?_
            refine K.KW.ifT rfl ?_
            refine K.KW.skip ?_
            refine K.thn_normal ?_
            refine K.KW.seq ?_
            refine K.KW.block ?_
            -- 16 :83
            refine K.KW.region ?_
            refine K.RW.qs [.slice q1 ((List.replicate j actC).length) c1] (by kernel_rfl) ?_
            refine K.RW.q rfl rfl (K.QR.bd [(0, .int .i64 4)] [.int .i64 4, .int .i64 0, .int .i64 0, .int .i64 0, .int .u32 0, .int .u32 0] rfl rfl (by kernel_rfl)) ?_
            refine K.RW.l rfl (K.OW.gbs [(0, .agg #[.int .i64 4, .int .i64 0, .int .i64 0, .int .i64 0, .int .u32 0, .int .u32 0])] [.int .i64 4, .int .i64 0, .int .i64 0, .int .i64 0, .int .u32 0, .int .u32 0] hS (fun w => K.bs_run (P := Tryd.prog) w 54 57 1 _ _ Tryd.underlying54 (by kernel_rfl)) ?_)
            clear hS; intro w r_21 g_22 hg_23 hS
            refine K.RW.l rfl (K.OW.gapp (P := Tryd.prog) (xs := ((List.replicate j actC)).flatMap cAct) (z := .agg #[.int .i64 0, .int .i64 0, .int .i64 0, .int .i64 0, .int .u32 0, .int .u32 0]) (size := 6) (bytes := 40) 1 [.int .i64 4, .int .i64 0, .int .i64 0, .int .i64 0, .int .u32 0, .int .u32 0] hS x_19 ?_ (fun j u hj => (by rw [Nat.zero_add]; exact (hS.blk 0 rfl hg_23).cell hj)) (K.one_cells (by rfl)) (by rfl) Tryd.underlying54 (by kernel_rfl) rfl (by decide) (by unfold maxLen; omega) (by omega))
            clear hS; intro a_24 cap_25 w l_26 o_27 hS
            have ln_28 : (((List.replicate j actC) ++ [(⟨4, 0, 0, 0, 0, 0⟩ : ActM)])).length = (List.replicate j actC).length + 1 := by rw [List.length_append]; rfl
            have o_27c := K.OwnG.cast (xs' := (((List.replicate j actC) ++ [(⟨4, 0, 0, 0, 0, 0⟩ : ActM)])).flatMap cAct) o_27 rfl (K.fl_snoc cAct (List.replicate j actC) (⟨4, 0, 0, 0, 0, 0⟩ : ActM) rfl)
            replace hS : K.Sat w0 [g_22, l_26, fr] w := hS
            refine K.RW.qs [.slice a_24 ((List.replicate j actC).length + 1) cap_25] (by kernel_rfl) ?_
            refine K.RW.nil ?_
            refine K.blk_normal ?_
            refine K.thn_normal ?_
            -- 15 :82
            refine K.KW.region ?_
            refine K.RW.qs [.int .i64 ((j : Nat) : Int)] (by kernel_rfl) ?_
            refine K.RW.q rfl rfl (K.QR.n64 ((((j : Nat) : Int) : Int) + (1 : Int)) ((j + 1 : Nat) : Int) (by kernel_rfl) (by omega)) ?_
            refine K.RW.qs [.int .i64 ((j + 1 : Nat) : Int)] (by kernel_rfl) ?_
            refine K.RW.nil ?_
            refine K.thn_normal ?_
            refine ⟨_, ?_, j + 1, a_24, cap_25, l_26, rfl, ⟨by rfl, by rfl, by rfl, by rfl, by rfl, congrArg (fun m_ => Value.slice a_24 m_ cap_25) (by simp : (List.replicate j actC).length + 1 = (List.replicate (j + 1) actC).length), by rfl, by rfl, trivial⟩, (by omega), (K.OwnG.cast o_27c (by simp) (by rw [List.replicate_succ']; rfl)), hS.pick [1, 2]⟩
            omega
          ·  -- no
            refine K.RW.q rfl rfl (K.QR.nice (v := .bool (decide ((((j : Nat) : Int) : Int) < (((20001 + by_ : Nat) : Int) : Int)))) (by kernel_rfl) (congrArg Value.bool (decide_eq_false h_20))) ?_
            refine K.RW.nil ?_
            refine K.thn_normal ?_
            refine K.KW.ifF rfl ?_
            refine K.KW.exit ?_
            refine K.thn_exit ?_
            refine K.thn_exit ?_
            refine K.blk_hit ?_
            refine K.thn_normal ?_
            refine K.KW.seq ?_
            -- 17 :85
            refine K.KW.region ?_
            refine K.RW.qs [.string (K.sb (stepT D))] (by kernel_rfl) ?_
            refine K.RW.l rfl (K.OW.gcall hS [] [0, 1] [.string (K.sb (stepT D))] (rdSt_ok _ D hD hsum (by omega)) ?_)
            clear hS; rintro _ _ w ⟨r_29, g_30, k_31, rfl, rfl⟩ hS
            replace hS : K.Sat w0 [g_30, o1, fr] w := hS
            refine K.RW.qs [.tuple #[.slice r_29 D.sum k_31, .int .i64 0, .int .i64 0], .slice r_29 D.sum k_31, .int .i64 0, .int .i64 0, .slice r_29 D.sum k_31, .int .i64 0, .int .i64 0] (by kernel_rfl) ?_
            refine K.RW.nil ?_
            refine K.thn_normal ?_
            refine K.KW.seq ?_
            -- 18 :86
            refine K.KW.region ?_
            refine K.RW.qs [.string (K.sb (stepT D))] (by kernel_rfl) ?_
            refine K.RW.q rfl rfl (K.QR.sAdd (xs := (stepT D)) (ys := [99, 114, 97, 115, 104, 10]) rfl rfl rfl (by (try simp only [List.length_append, List.length_cons, List.length_nil] at *); omega)) ?_
            refine K.RW.l rfl (K.OW.gcall hS [] [0, 1, 2] [.string (K.sb ((stepT D) ++ ([99, 114, 97, 115, 104, 10] : List UInt8)))] (rdCr_ok _ D hD hsum (by omega)) ?_)
            clear hS; rintro _ _ w ⟨r_34, g_35, k_36, n_37, m_38, rfl, (⟨h_32, rfl⟩ | ⟨h_33, rfl⟩)⟩ hS
            ·
              replace hS : K.Sat w0 [g_35, g_30, o1, fr] w := hS
              refine K.RW.qs [.tuple #[.slice r_34 n_37 k_36, .int .i64 m_38, .int .i64 2], .slice r_34 n_37 k_36, .int .i64 m_38, .int .i64 2, .slice r_34 n_37 k_36, .int .i64 m_38, .int .i64 2] (by kernel_rfl) ?_
              refine K.RW.nil ?_
              refine K.thn_normal ?_
              refine K.KW.seq ?_
              -- 19 :87
              have hjl : (List.replicate j actC).length = j := List.length_replicate
              refine K.KW.region ?_
              refine K.RW.qs [.slice q1 ((List.replicate j actC).length) c1] (by kernel_rfl) ?_
              refine K.RW.l rfl (K.OW.gcall hS [2] [0, 1, 3] [.slice q1 ((List.replicate j actC).length) c1] (swr_ok _ _ _ (List.replicate j actC) (by omega) x_19.le.1 (rep_af j) _ (fun w h => K.RowE.len (K.Own.rowE act0 (h.ownr 0 rfl x_19) rfl (fun _ => rfl)) rfl)) ?_)
              clear hS; rintro _ _ w ⟨rfl, (⟨h_39, rfl⟩ | ⟨h_40, h2_41, rfl⟩ | ⟨h_42, h2_43, h3_44, rfl⟩)⟩ hS
              ·
                exact absurd (rep_rt j) h_39
              ·
                replace hS : K.Sat w0 [o1, g_35, g_30, fr] w := hS
                refine K.RW.qs [.tuple #[.string (K.sb []), .int .i64 2], .string (K.sb []), .int .i64 2, .string (K.sb []), .int .i64 2] (by kernel_rfl) ?_
                refine K.RW.nil ?_
                refine K.thn_normal ?_
                refine K.KW.seq ?_
                -- 20 :88
                refine K.KW.region ?_
                refine K.RW.qs [.int .u8 ((by_ : Nat) : Int)] (by kernel_rfl) ?_
                refine K.RW.q rfl rfl (K.QR.nice (v := .int .i64 (IntKind.i64.wrap ((by_ : Nat) : Int))) (by kernel_rfl) (congrArg (Value.int .i64) (IntWalk.i64_in _ (by omega)))) ?_
                refine K.RW.q rfl rfl (K.QR.n64 ((65537 : Int) + (((by_ : Nat) : Int) : Int)) ((65537 + by_ : Nat) : Int) (by kernel_rfl) (by omega)) ?_
                refine K.RW.l rfl (K.OW.gmk (P := Tryd.prog) (m := (65537 + by_)) (cc := cU8) (z := .int .u8 0) (size := 1) (bytes := 1) (0 : Int) hS ?_ Tryd.underlying66 (by kernel_rfl) rfl rfl (by unfold maxLen; omega) (by omega))
                clear hS; intro w r_45 l_46 o_47 hS
                refine K.RW.q rfl rfl (K.QR.sOf (xs := (List.replicate (65537 + by_) (0 : Int))) (ys := (List.replicate (65537 + by_) (0 : UInt8))) rfl rfl Tryd.underlying66 Tryd.underlying5 Tryd.underlying9 (List.length_replicate : ((List.replicate (65537 + by_) (0 : Int))).length = 65537 + by_) (K.RowE.len (K.Own.rowE 0 (hS.ownr 0 rfl o_47) (List.length_replicate : ((List.replicate (65537 + by_) (0 : Int))).length = 65537 + by_) (fun _ => rfl)) (List.length_replicate : ((List.replicate (65537 + by_) (0 : Int))).length = 65537 + by_)) (by rw [List.map_replicate]; rfl)) ?_
                refine K.RW.l rfl (K.OW.gcall hS [] [0, 1, 2, 3, 4] [.string (K.sb (List.replicate (65537 + by_) (0 : UInt8)))] (rdLo_ok _ (List.replicate (65537 + by_) (0 : UInt8)) (by rw [List.length_replicate]; omega) (by rw [List.length_replicate]; omega)) ?_)
                clear hS; rintro _ _ w ⟨r_48, g_49, k_50, rfl, rfl⟩ hS
                replace hS : K.Sat w0 [g_49, l_46, o1, g_35, g_30, fr] w := hS
                refine K.RW.qs [.tuple #[.slice r_48 0 k_50, .int .i64 0, .int .i64 2], .slice r_48 0 k_50, .int .i64 0, .int .i64 2, .slice r_48 0 k_50, .int .i64 0, .int .i64 2] (by kernel_rfl) ?_
                refine K.RW.nil ?_
                refine K.thn_normal ?_
                refine K.KW.seq ?_
                -- 21 :89
                refine K.KW.region ?_
                refine K.RW.qs [.int .i64 ((D.sum : Nat) : Int)] (by kernel_rfl) ?_
                refine K.RW.q rfl rfl (K.QR.nice (v := .bool ((((D.sum : Nat) : Int) : Int) == (20000 : Int))) (by kernel_rfl) (congrArg Value.bool (beq_iff_eq.2 (by omega)))) ?_
                refine K.RW.qs [.bool true] (by kernel_rfl) ?_
                refine K.RW.nil ?_
                refine K.thn_normal ?_
                refine K.KW.seq ?_
                -- 22 :90
                refine K.KW.region ?_
                refine K.RW.l rfl (K.OW.gcall hS [] [0, 1, 2, 3, 4, 5] [] (awake28_ok _) ?_)
                clear hS; rintro _ _ w ⟨rfl, rfl⟩ hS
                replace hS : K.Sat w0 [g_49, l_46, o1, g_35, g_30, fr] w := hS
                refine K.RW.qs [.bool true, .int .i64 0, .bool true, .bool true, .bool true, .slice r_29 D.sum k_31] (by kernel_rfl) ?_
                refine K.RW.q rfl (by kernel_rfl) (K.QR.len (P := Tryd.prog) rfl rfl Tryd.underlying54) ?_
                refine K.RW.qs [.int .i64 ((D.sum : Nat) : Int)] (by kernel_rfl) ?_
                refine K.RW.q rfl (by kernel_rfl) (K.QR.nice (v := .bool ((((D.sum : Nat) : Int) : Int) == (((D.sum : Nat) : Int) : Int))) (by kernel_rfl) (congrArg Value.bool (beq_iff_eq.2 (rfl)))) ?_
                refine K.RW.qs [.bool true, .bool true, .int .i64 2, .bool true, .bool true, .bool true, .bool true, .bool true, .int .i64 2, .bool true, .bool true, .bool true, .int .i64 2, .bool true, .bool true, .bool true, .int .i64 0, .bool true, .bool true, .bool true] (by kernel_rfl) ?_
                refine K.RW.nil ?_
                refine K.thn_normal ?_
                refine K.KW.ret ?_
                refine ⟨.inr rfl, rfl, (.bool true), K.res1 rfl rfl, [], ?_, hS.pick [5]⟩
                exact rfl
              ·
                exfalso; omega
            ·
              replace hS : K.Sat w0 [g_35, g_30, o1, fr] w := hS
              refine K.RW.qs [.tuple #[.slice r_34 n_37 k_36, .int .i64 m_38, .int .i64 0], .slice r_34 n_37 k_36, .int .i64 m_38, .int .i64 0, .slice r_34 n_37 k_36, .int .i64 m_38, .int .i64 0] (by kernel_rfl) ?_
              refine K.RW.nil ?_
              refine K.thn_normal ?_
              refine K.KW.seq ?_
              -- 19 :87
              have hjl : (List.replicate j actC).length = j := List.length_replicate
              refine K.KW.region ?_
              refine K.RW.qs [.slice q1 ((List.replicate j actC).length) c1] (by kernel_rfl) ?_
              refine K.RW.l rfl (K.OW.gcall hS [2] [0, 1, 3] [.slice q1 ((List.replicate j actC).length) c1] (swr_ok _ _ _ (List.replicate j actC) (by omega) x_19.le.1 (rep_af j) _ (fun w h => K.RowE.len (K.Own.rowE act0 (h.ownr 0 rfl x_19) rfl (fun _ => rfl)) rfl)) ?_)
              clear hS; rintro _ _ w ⟨rfl, (⟨h_51, rfl⟩ | ⟨h_52, h2_53, rfl⟩ | ⟨h_54, h2_55, h3_56, rfl⟩)⟩ hS
              ·
                exact absurd (rep_rt j) h_51
              ·
                replace hS : K.Sat w0 [o1, g_35, g_30, fr] w := hS
                refine K.RW.qs [.tuple #[.string (K.sb []), .int .i64 2], .string (K.sb []), .int .i64 2, .string (K.sb []), .int .i64 2] (by kernel_rfl) ?_
                refine K.RW.nil ?_
                refine K.thn_normal ?_
                refine K.KW.seq ?_
                -- 20 :88
                refine K.KW.region ?_
                refine K.RW.qs [.int .u8 ((by_ : Nat) : Int)] (by kernel_rfl) ?_
                refine K.RW.q rfl rfl (K.QR.nice (v := .int .i64 (IntKind.i64.wrap ((by_ : Nat) : Int))) (by kernel_rfl) (congrArg (Value.int .i64) (IntWalk.i64_in _ (by omega)))) ?_
                refine K.RW.q rfl rfl (K.QR.n64 ((65537 : Int) + (((by_ : Nat) : Int) : Int)) ((65537 + by_ : Nat) : Int) (by kernel_rfl) (by omega)) ?_
                refine K.RW.l rfl (K.OW.gmk (P := Tryd.prog) (m := (65537 + by_)) (cc := cU8) (z := .int .u8 0) (size := 1) (bytes := 1) (0 : Int) hS ?_ Tryd.underlying66 (by kernel_rfl) rfl rfl (by unfold maxLen; omega) (by omega))
                clear hS; intro w r_57 l_58 o_59 hS
                refine K.RW.q rfl rfl (K.QR.sOf (xs := (List.replicate (65537 + by_) (0 : Int))) (ys := (List.replicate (65537 + by_) (0 : UInt8))) rfl rfl Tryd.underlying66 Tryd.underlying5 Tryd.underlying9 (List.length_replicate : ((List.replicate (65537 + by_) (0 : Int))).length = 65537 + by_) (K.RowE.len (K.Own.rowE 0 (hS.ownr 0 rfl o_59) (List.length_replicate : ((List.replicate (65537 + by_) (0 : Int))).length = 65537 + by_) (fun _ => rfl)) (List.length_replicate : ((List.replicate (65537 + by_) (0 : Int))).length = 65537 + by_)) (by rw [List.map_replicate]; rfl)) ?_
                refine K.RW.l rfl (K.OW.gcall hS [] [0, 1, 2, 3, 4] [.string (K.sb (List.replicate (65537 + by_) (0 : UInt8)))] (rdLo_ok _ (List.replicate (65537 + by_) (0 : UInt8)) (by rw [List.length_replicate]; omega) (by rw [List.length_replicate]; omega)) ?_)
                clear hS; rintro _ _ w ⟨r_60, g_61, k_62, rfl, rfl⟩ hS
                replace hS : K.Sat w0 [g_61, l_58, o1, g_35, g_30, fr] w := hS
                refine K.RW.qs [.tuple #[.slice r_60 0 k_62, .int .i64 0, .int .i64 2], .slice r_60 0 k_62, .int .i64 0, .int .i64 2, .slice r_60 0 k_62, .int .i64 0, .int .i64 2] (by kernel_rfl) ?_
                refine K.RW.nil ?_
                refine K.thn_normal ?_
                refine K.KW.seq ?_
                -- 21 :89
                refine K.KW.region ?_
                refine K.RW.qs [.int .i64 ((D.sum : Nat) : Int)] (by kernel_rfl) ?_
                refine K.RW.q rfl rfl (K.QR.nice (v := .bool ((((D.sum : Nat) : Int) : Int) == (20000 : Int))) (by kernel_rfl) (congrArg Value.bool (beq_eq_false_iff_ne.2 (by omega)))) ?_
                refine K.RW.qs [.bool false] (by kernel_rfl) ?_
                refine K.RW.nil ?_
                refine K.thn_normal ?_
                refine K.KW.seq ?_
                -- 22 :90
                refine K.KW.region ?_
                refine K.RW.l rfl (K.OW.gcall hS [] [0, 1, 2, 3, 4, 5] [] (awake28_ok _) ?_)
                clear hS; rintro _ _ w ⟨rfl, rfl⟩ hS
                replace hS : K.Sat w0 [g_61, l_58, o1, g_35, g_30, fr] w := hS
                refine K.RW.qs [.bool true, .int .i64 0, .bool true, .bool true, .bool true, .slice r_29 D.sum k_31] (by kernel_rfl) ?_
                refine K.RW.q rfl (by kernel_rfl) (K.QR.len (P := Tryd.prog) rfl rfl Tryd.underlying54) ?_
                refine K.RW.qs [.int .i64 ((D.sum : Nat) : Int)] (by kernel_rfl) ?_
                refine K.RW.q rfl (by kernel_rfl) (K.QR.nice (v := .bool ((((D.sum : Nat) : Int) : Int) == (((D.sum : Nat) : Int) : Int))) (by kernel_rfl) (congrArg Value.bool (beq_iff_eq.2 (rfl)))) ?_
                refine K.RW.qs [.bool true, .bool true, .int .i64 0, .bool false, .bool false, .bool true, .bool true, .bool true, .int .i64 2, .bool true, .bool true, .bool true, .int .i64 2, .bool true, .bool true, .bool true, .int .i64 0, .bool true, .bool true, .bool true] (by kernel_rfl) ?_
                refine K.RW.nil ?_
                refine K.thn_normal ?_
                refine K.KW.ret ?_
                refine ⟨.inr rfl, rfl, (.bool true), K.res1 rfl rfl, [], ?_, hS.pick [5]⟩
                exact rfl
              ·
                exfalso; omega
    ·  -- no
      refine K.RW.q rfl rfl (K.QR.nice (v := .bool (decide ((((D.sum : Nat) : Int) : Int) < (20000 : Int)))) (by kernel_rfl) (congrArg Value.bool (decide_eq_false h_5))) ?_
      refine K.RW.qs [.bool false] (by kernel_rfl) ?_
      refine K.RW.skip rfl (by kernel_rfl) ?_
      refine K.RW.skip rfl (by kernel_rfl) ?_
      refine K.RW.qs [.bool false] (by kernel_rfl) ?_
      refine K.RW.nil ?_
      refine K.thn_normal ?_
      refine K.KW.ifF rfl ?_
      refine K.KW.exit ?_
      refine K.thn_exit ?_
      refine K.thn_exit ?_
      refine K.blk_hit ?_
      refine K.thn_normal ?_
      refine K.KW.seq ?_
      refine K.KW.seq ?_
      -- 13 :82
      refine K.KW.region ?_
      refine K.RW.qs [.int .i64 0] (by kernel_rfl) ?_
      refine K.RW.nil ?_
      refine K.thn_normal ?_
      refine K.KW.block ?_
      obtain ⟨z_63, hz_64⟩ : ∃ z : K.Cs, z = [] := ⟨_, rfl⟩
      replace hS : K.Sat w0 [z_63, fr] w := hS.of (by simp [hz_64])
      have o_65 : K.OwnG z_63 57 6 none 0 0 [] := by rw [hz_64]; exact K.OwnG.nil _ _
      refine K.KW.loop (fun m_ F_ w_ => ∃ (j : Nat) (q1 : Option Addr) (c1 : Nat) (o1 : K.Cs), m_ = 20001 + by_ - j ∧ K.Sl F_ [(0, .int .u8 ((by_ : Nat) : Int)), (1, .int .u16 ((tm : Nat) : Int)), (4, .bool false), (6, .string (K.sb (stepT D))), (7, .int .i64 ((D.sum : Nat) : Int)), (8, .slice q1 ((List.replicate j actC).length) c1), (11, .int .i64 ((j : Nat) : Int)), (124, undef)] ∧ j ≤ 20001 + by_ ∧ K.OwnG o1 57 6 q1 ((List.replicate j actC).length) c1 (((List.replicate j actC)).flatMap cAct) ∧ K.Sat w0 [o1, fr] w_) ((fun (j : Nat) (q1 : Option Addr) (c1 : Nat) => 20001 + by_ - j) 0 none 0) ?_ ?_
      · -- begins
        exact ⟨0, none, 0, z_63, rfl, ⟨by rfl, by rfl, by rfl, by rfl, by rfl, by rfl, by rfl, by rfl, trivial⟩, (by omega), o_65, hS.pick [0, 1]⟩
      · -- a round
        clear hS
        intro m_66 F_67 w hI
        obtain ⟨j, q1, c1, o1, rfl, sl_68, p_69, x_70, hS⟩ := hI
        rw [← K.Sl.puts sl_68]; clear sl_68
        have hjl0 : (List.replicate j actC).length = j := List.length_replicate
        refine K.KW.seq ?_
        refine K.KW.seq ?_
        -- 14 :82
        refine K.KW.region ?_
        refine K.RW.qs [.int .i64 ((j : Nat) : Int), .int .u8 ((by_ : Nat) : Int)] (by kernel_rfl) ?_
        refine K.RW.q rfl rfl (K.QR.nice (v := .int .i64 (IntKind.i64.wrap ((by_ : Nat) : Int))) (by kernel_rfl) (congrArg (Value.int .i64) (IntWalk.i64_in _ (by omega)))) ?_
        refine K.RW.q rfl rfl (K.QR.n64 ((20001 : Int) + (((by_ : Nat) : Int) : Int)) ((20001 + by_ : Nat) : Int) (by kernel_rfl) (by omega)) ?_
        by_cases h_71 : (((j : Nat) : Int) : Int) < (((20001 + by_ : Nat) : Int) : Int)
        ·  -- yes
          refine K.RW.q rfl rfl (K.QR.nice (v := .bool (decide ((((j : Nat) : Int) : Int) < (((20001 + by_ : Nat) : Int) : Int)))) (by kernel_rfl) (congrArg Value.bool (decide_eq_true h_71))) ?_
          refine K.RW.nil ?_
          refine K.thn_normal ?_
          refine K.KW.ifT rfl ?_
          refine K.KW.skip ?_
          refine K.thn_normal ?_
          refine K.KW.seq ?_
          refine K.KW.block ?_
          -- 16 :83
          refine K.KW.region ?_
          refine K.RW.qs [.slice q1 ((List.replicate j actC).length) c1] (by kernel_rfl) ?_
          refine K.RW.q rfl rfl (K.QR.bd [(0, .int .i64 4)] [.int .i64 4, .int .i64 0, .int .i64 0, .int .i64 0, .int .u32 0, .int .u32 0] rfl rfl (by kernel_rfl)) ?_
          refine K.RW.l rfl (K.OW.gbs [(0, .agg #[.int .i64 4, .int .i64 0, .int .i64 0, .int .i64 0, .int .u32 0, .int .u32 0])] [.int .i64 4, .int .i64 0, .int .i64 0, .int .i64 0, .int .u32 0, .int .u32 0] hS (fun w => K.bs_run (P := Tryd.prog) w 54 57 1 _ _ Tryd.underlying54 (by kernel_rfl)) ?_)
          clear hS; intro w r_72 g_73 hg_74 hS
          refine K.RW.l rfl (K.OW.gapp (P := Tryd.prog) (xs := ((List.replicate j actC)).flatMap cAct) (z := .agg #[.int .i64 0, .int .i64 0, .int .i64 0, .int .i64 0, .int .u32 0, .int .u32 0]) (size := 6) (bytes := 40) 1 [.int .i64 4, .int .i64 0, .int .i64 0, .int .i64 0, .int .u32 0, .int .u32 0] hS x_70 ?_ (fun j u hj => (by rw [Nat.zero_add]; exact (hS.blk 0 rfl hg_74).cell hj)) (K.one_cells (by rfl)) (by rfl) Tryd.underlying54 (by kernel_rfl) rfl (by decide) (by unfold maxLen; omega) (by omega))
          clear hS; intro a_75 cap_76 w l_77 o_78 hS
          have ln_79 : (((List.replicate j actC) ++ [(⟨4, 0, 0, 0, 0, 0⟩ : ActM)])).length = (List.replicate j actC).length + 1 := by rw [List.length_append]; rfl
          have o_78c := K.OwnG.cast (xs' := (((List.replicate j actC) ++ [(⟨4, 0, 0, 0, 0, 0⟩ : ActM)])).flatMap cAct) o_78 rfl (K.fl_snoc cAct (List.replicate j actC) (⟨4, 0, 0, 0, 0, 0⟩ : ActM) rfl)
          replace hS : K.Sat w0 [g_73, l_77, fr] w := hS
          refine K.RW.qs [.slice a_75 ((List.replicate j actC).length + 1) cap_76] (by kernel_rfl) ?_
          refine K.RW.nil ?_
          refine K.blk_normal ?_
          refine K.thn_normal ?_
          -- 15 :82
          refine K.KW.region ?_
          refine K.RW.qs [.int .i64 ((j : Nat) : Int)] (by kernel_rfl) ?_
          refine K.RW.q rfl rfl (K.QR.n64 ((((j : Nat) : Int) : Int) + (1 : Int)) ((j + 1 : Nat) : Int) (by kernel_rfl) (by omega)) ?_
          refine K.RW.qs [.int .i64 ((j + 1 : Nat) : Int)] (by kernel_rfl) ?_
          refine K.RW.nil ?_
          refine K.thn_normal ?_
          refine ⟨_, ?_, j + 1, a_75, cap_76, l_77, rfl, ⟨by rfl, by rfl, by rfl, by rfl, by rfl, congrArg (fun m_ => Value.slice a_75 m_ cap_76) (by simp : (List.replicate j actC).length + 1 = (List.replicate (j + 1) actC).length), by rfl, by rfl, trivial⟩, (by omega), (K.OwnG.cast o_78c (by simp) (by rw [List.replicate_succ']; rfl)), hS.pick [1, 2]⟩
          omega
        ·  -- no
          refine K.RW.q rfl rfl (K.QR.nice (v := .bool (decide ((((j : Nat) : Int) : Int) < (((20001 + by_ : Nat) : Int) : Int)))) (by kernel_rfl) (congrArg Value.bool (decide_eq_false h_71))) ?_
          refine K.RW.nil ?_
          refine K.thn_normal ?_
          refine K.KW.ifF rfl ?_
          refine K.KW.exit ?_
          refine K.thn_exit ?_
          refine K.thn_exit ?_
          refine K.blk_hit ?_
          refine K.thn_normal ?_
          refine K.KW.seq ?_
          -- 17 :85
          refine K.KW.region ?_
          refine K.RW.qs [.string (K.sb (stepT D))] (by kernel_rfl) ?_
          refine K.RW.l rfl (K.OW.gcall hS [] [0, 1] [.string (K.sb (stepT D))] (rdSt_ok _ D hD hsum (by omega)) ?_)
          clear hS; rintro _ _ w ⟨r_80, g_81, k_82, rfl, rfl⟩ hS
          replace hS : K.Sat w0 [g_81, o1, fr] w := hS
          refine K.RW.qs [.tuple #[.slice r_80 D.sum k_82, .int .i64 0, .int .i64 0], .slice r_80 D.sum k_82, .int .i64 0, .int .i64 0, .slice r_80 D.sum k_82, .int .i64 0, .int .i64 0] (by kernel_rfl) ?_
          refine K.RW.nil ?_
          refine K.thn_normal ?_
          refine K.KW.seq ?_
          -- 18 :86
          refine K.KW.region ?_
          refine K.RW.qs [.string (K.sb (stepT D))] (by kernel_rfl) ?_
          refine K.RW.q rfl rfl (K.QR.sAdd (xs := (stepT D)) (ys := [99, 114, 97, 115, 104, 10]) rfl rfl rfl (by (try simp only [List.length_append, List.length_cons, List.length_nil] at *); omega)) ?_
          refine K.RW.l rfl (K.OW.gcall hS [] [0, 1, 2] [.string (K.sb ((stepT D) ++ ([99, 114, 97, 115, 104, 10] : List UInt8)))] (rdCr_ok _ D hD hsum (by omega)) ?_)
          clear hS; rintro _ _ w ⟨r_85, g_86, k_87, n_88, m_89, rfl, (⟨h_83, rfl⟩ | ⟨h_84, rfl⟩)⟩ hS
          ·
            replace hS : K.Sat w0 [g_86, g_81, o1, fr] w := hS
            refine K.RW.qs [.tuple #[.slice r_85 n_88 k_87, .int .i64 m_89, .int .i64 2], .slice r_85 n_88 k_87, .int .i64 m_89, .int .i64 2, .slice r_85 n_88 k_87, .int .i64 m_89, .int .i64 2] (by kernel_rfl) ?_
            refine K.RW.nil ?_
            refine K.thn_normal ?_
            refine K.KW.seq ?_
            -- 19 :87
            have hjl : (List.replicate j actC).length = j := List.length_replicate
            refine K.KW.region ?_
            refine K.RW.qs [.slice q1 ((List.replicate j actC).length) c1] (by kernel_rfl) ?_
            refine K.RW.l rfl (K.OW.gcall hS [2] [0, 1, 3] [.slice q1 ((List.replicate j actC).length) c1] (swr_ok _ _ _ (List.replicate j actC) (by omega) x_70.le.1 (rep_af j) _ (fun w h => K.RowE.len (K.Own.rowE act0 (h.ownr 0 rfl x_70) rfl (fun _ => rfl)) rfl)) ?_)
            clear hS; rintro _ _ w ⟨rfl, (⟨h_90, rfl⟩ | ⟨h_91, h2_92, rfl⟩ | ⟨h_93, h2_94, h3_95, rfl⟩)⟩ hS
            ·
              exact absurd (rep_rt j) h_90
            ·
              replace hS : K.Sat w0 [o1, g_86, g_81, fr] w := hS
              refine K.RW.qs [.tuple #[.string (K.sb []), .int .i64 2], .string (K.sb []), .int .i64 2, .string (K.sb []), .int .i64 2] (by kernel_rfl) ?_
              refine K.RW.nil ?_
              refine K.thn_normal ?_
              refine K.KW.seq ?_
              -- 20 :88
              refine K.KW.region ?_
              refine K.RW.qs [.int .u8 ((by_ : Nat) : Int)] (by kernel_rfl) ?_
              refine K.RW.q rfl rfl (K.QR.nice (v := .int .i64 (IntKind.i64.wrap ((by_ : Nat) : Int))) (by kernel_rfl) (congrArg (Value.int .i64) (IntWalk.i64_in _ (by omega)))) ?_
              refine K.RW.q rfl rfl (K.QR.n64 ((65537 : Int) + (((by_ : Nat) : Int) : Int)) ((65537 + by_ : Nat) : Int) (by kernel_rfl) (by omega)) ?_
              refine K.RW.l rfl (K.OW.gmk (P := Tryd.prog) (m := (65537 + by_)) (cc := cU8) (z := .int .u8 0) (size := 1) (bytes := 1) (0 : Int) hS ?_ Tryd.underlying66 (by kernel_rfl) rfl rfl (by unfold maxLen; omega) (by omega))
              clear hS; intro w r_96 l_97 o_98 hS
              refine K.RW.q rfl rfl (K.QR.sOf (xs := (List.replicate (65537 + by_) (0 : Int))) (ys := (List.replicate (65537 + by_) (0 : UInt8))) rfl rfl Tryd.underlying66 Tryd.underlying5 Tryd.underlying9 (List.length_replicate : ((List.replicate (65537 + by_) (0 : Int))).length = 65537 + by_) (K.RowE.len (K.Own.rowE 0 (hS.ownr 0 rfl o_98) (List.length_replicate : ((List.replicate (65537 + by_) (0 : Int))).length = 65537 + by_) (fun _ => rfl)) (List.length_replicate : ((List.replicate (65537 + by_) (0 : Int))).length = 65537 + by_)) (by rw [List.map_replicate]; rfl)) ?_
              refine K.RW.l rfl (K.OW.gcall hS [] [0, 1, 2, 3, 4] [.string (K.sb (List.replicate (65537 + by_) (0 : UInt8)))] (rdLo_ok _ (List.replicate (65537 + by_) (0 : UInt8)) (by rw [List.length_replicate]; omega) (by rw [List.length_replicate]; omega)) ?_)
              clear hS; rintro _ _ w ⟨r_99, g_100, k_101, rfl, rfl⟩ hS
              replace hS : K.Sat w0 [g_100, l_97, o1, g_86, g_81, fr] w := hS
              refine K.RW.qs [.tuple #[.slice r_99 0 k_101, .int .i64 0, .int .i64 2], .slice r_99 0 k_101, .int .i64 0, .int .i64 2, .slice r_99 0 k_101, .int .i64 0, .int .i64 2] (by kernel_rfl) ?_
              refine K.RW.nil ?_
              refine K.thn_normal ?_
              refine K.KW.seq ?_
              -- 21 :89
              refine K.KW.region ?_
              refine K.RW.qs [.int .i64 ((D.sum : Nat) : Int)] (by kernel_rfl) ?_
              refine K.RW.q rfl rfl (K.QR.nice (v := .bool ((((D.sum : Nat) : Int) : Int) == (20000 : Int))) (by kernel_rfl) (congrArg Value.bool (beq_iff_eq.2 (by omega)))) ?_
              refine K.RW.qs [.bool true] (by kernel_rfl) ?_
              refine K.RW.nil ?_
              refine K.thn_normal ?_
              refine K.KW.seq ?_
              -- 22 :90
              refine K.KW.region ?_
              refine K.RW.l rfl (K.OW.gcall hS [] [0, 1, 2, 3, 4, 5] [] (awake28_ok _) ?_)
              clear hS; rintro _ _ w ⟨rfl, rfl⟩ hS
              replace hS : K.Sat w0 [g_100, l_97, o1, g_86, g_81, fr] w := hS
              refine K.RW.qs [.bool true, .int .i64 0, .bool true, .bool true, .bool true, .slice r_80 D.sum k_82] (by kernel_rfl) ?_
              refine K.RW.q rfl (by kernel_rfl) (K.QR.len (P := Tryd.prog) rfl rfl Tryd.underlying54) ?_
              refine K.RW.qs [.int .i64 ((D.sum : Nat) : Int)] (by kernel_rfl) ?_
              refine K.RW.q rfl (by kernel_rfl) (K.QR.nice (v := .bool ((((D.sum : Nat) : Int) : Int) == (((D.sum : Nat) : Int) : Int))) (by kernel_rfl) (congrArg Value.bool (beq_iff_eq.2 (rfl)))) ?_
              refine K.RW.qs [.bool true, .bool true, .int .i64 2, .bool true, .bool true, .bool true, .bool true, .bool true, .int .i64 2, .bool true, .bool true, .bool true, .int .i64 2, .bool true, .bool true, .bool true, .int .i64 0, .bool true, .bool true, .bool true] (by kernel_rfl) ?_
              refine K.RW.nil ?_
              refine K.thn_normal ?_
              refine K.KW.ret ?_
              refine ⟨.inr rfl, rfl, (.bool true), K.res1 rfl rfl, [], ?_, hS.pick [5]⟩
              exact rfl
            ·
              exfalso; omega
          ·
            replace hS : K.Sat w0 [g_86, g_81, o1, fr] w := hS
            refine K.RW.qs [.tuple #[.slice r_85 n_88 k_87, .int .i64 m_89, .int .i64 0], .slice r_85 n_88 k_87, .int .i64 m_89, .int .i64 0, .slice r_85 n_88 k_87, .int .i64 m_89, .int .i64 0] (by kernel_rfl) ?_
            refine K.RW.nil ?_
            refine K.thn_normal ?_
            refine K.KW.seq ?_
            -- 19 :87
            have hjl : (List.replicate j actC).length = j := List.length_replicate
            refine K.KW.region ?_
            refine K.RW.qs [.slice q1 ((List.replicate j actC).length) c1] (by kernel_rfl) ?_
            refine K.RW.l rfl (K.OW.gcall hS [2] [0, 1, 3] [.slice q1 ((List.replicate j actC).length) c1] (swr_ok _ _ _ (List.replicate j actC) (by omega) x_70.le.1 (rep_af j) _ (fun w h => K.RowE.len (K.Own.rowE act0 (h.ownr 0 rfl x_70) rfl (fun _ => rfl)) rfl)) ?_)
            clear hS; rintro _ _ w ⟨rfl, (⟨h_102, rfl⟩ | ⟨h_103, h2_104, rfl⟩ | ⟨h_105, h2_106, h3_107, rfl⟩)⟩ hS
            ·
              exact absurd (rep_rt j) h_102
            ·
              replace hS : K.Sat w0 [o1, g_86, g_81, fr] w := hS
              refine K.RW.qs [.tuple #[.string (K.sb []), .int .i64 2], .string (K.sb []), .int .i64 2, .string (K.sb []), .int .i64 2] (by kernel_rfl) ?_
              refine K.RW.nil ?_
              refine K.thn_normal ?_
              refine K.KW.seq ?_
              -- 20 :88
              refine K.KW.region ?_
              refine K.RW.qs [.int .u8 ((by_ : Nat) : Int)] (by kernel_rfl) ?_
              refine K.RW.q rfl rfl (K.QR.nice (v := .int .i64 (IntKind.i64.wrap ((by_ : Nat) : Int))) (by kernel_rfl) (congrArg (Value.int .i64) (IntWalk.i64_in _ (by omega)))) ?_
              refine K.RW.q rfl rfl (K.QR.n64 ((65537 : Int) + (((by_ : Nat) : Int) : Int)) ((65537 + by_ : Nat) : Int) (by kernel_rfl) (by omega)) ?_
              refine K.RW.l rfl (K.OW.gmk (P := Tryd.prog) (m := (65537 + by_)) (cc := cU8) (z := .int .u8 0) (size := 1) (bytes := 1) (0 : Int) hS ?_ Tryd.underlying66 (by kernel_rfl) rfl rfl (by unfold maxLen; omega) (by omega))
              clear hS; intro w r_108 l_109 o_110 hS
              refine K.RW.q rfl rfl (K.QR.sOf (xs := (List.replicate (65537 + by_) (0 : Int))) (ys := (List.replicate (65537 + by_) (0 : UInt8))) rfl rfl Tryd.underlying66 Tryd.underlying5 Tryd.underlying9 (List.length_replicate : ((List.replicate (65537 + by_) (0 : Int))).length = 65537 + by_) (K.RowE.len (K.Own.rowE 0 (hS.ownr 0 rfl o_110) (List.length_replicate : ((List.replicate (65537 + by_) (0 : Int))).length = 65537 + by_) (fun _ => rfl)) (List.length_replicate : ((List.replicate (65537 + by_) (0 : Int))).length = 65537 + by_)) (by rw [List.map_replicate]; rfl)) ?_
              refine K.RW.l rfl (K.OW.gcall hS [] [0, 1, 2, 3, 4] [.string (K.sb (List.replicate (65537 + by_) (0 : UInt8)))] (rdLo_ok _ (List.replicate (65537 + by_) (0 : UInt8)) (by rw [List.length_replicate]; omega) (by rw [List.length_replicate]; omega)) ?_)
              clear hS; rintro _ _ w ⟨r_111, g_112, k_113, rfl, rfl⟩ hS
              replace hS : K.Sat w0 [g_112, l_109, o1, g_86, g_81, fr] w := hS
              refine K.RW.qs [.tuple #[.slice r_111 0 k_113, .int .i64 0, .int .i64 2], .slice r_111 0 k_113, .int .i64 0, .int .i64 2, .slice r_111 0 k_113, .int .i64 0, .int .i64 2] (by kernel_rfl) ?_
              refine K.RW.nil ?_
              refine K.thn_normal ?_
              refine K.KW.seq ?_
              -- 21 :89
              refine K.KW.region ?_
              refine K.RW.qs [.int .i64 ((D.sum : Nat) : Int)] (by kernel_rfl) ?_
              refine K.RW.q rfl rfl (K.QR.nice (v := .bool ((((D.sum : Nat) : Int) : Int) == (20000 : Int))) (by kernel_rfl) (congrArg Value.bool (beq_eq_false_iff_ne.2 (by omega)))) ?_
              refine K.RW.qs [.bool false] (by kernel_rfl) ?_
              refine K.RW.nil ?_
              refine K.thn_normal ?_
              refine K.KW.seq ?_
              -- 22 :90
              refine K.KW.region ?_
              refine K.RW.l rfl (K.OW.gcall hS [] [0, 1, 2, 3, 4, 5] [] (awake28_ok _) ?_)
              clear hS; rintro _ _ w ⟨rfl, rfl⟩ hS
              replace hS : K.Sat w0 [g_112, l_109, o1, g_86, g_81, fr] w := hS
              refine K.RW.qs [.bool true, .int .i64 0, .bool true, .bool true, .bool true, .slice r_80 D.sum k_82] (by kernel_rfl) ?_
              refine K.RW.q rfl (by kernel_rfl) (K.QR.len (P := Tryd.prog) rfl rfl Tryd.underlying54) ?_
              refine K.RW.qs [.int .i64 ((D.sum : Nat) : Int)] (by kernel_rfl) ?_
              refine K.RW.q rfl (by kernel_rfl) (K.QR.nice (v := .bool ((((D.sum : Nat) : Int) : Int) == (((D.sum : Nat) : Int) : Int))) (by kernel_rfl) (congrArg Value.bool (beq_iff_eq.2 (rfl)))) ?_
              refine K.RW.qs [.bool true, .bool true, .int .i64 0, .bool false, .bool false, .bool true, .bool true, .bool true, .int .i64 2, .bool true, .bool true, .bool true, .int .i64 2, .bool true, .bool true, .bool true, .int .i64 0, .bool true, .bool true, .bool true] (by kernel_rfl) ?_
              refine K.RW.nil ?_
              refine K.thn_normal ?_
              refine K.KW.ret ?_
              refine ⟨.inr rfl, rfl, (.bool true), K.res1 rfl rfl, [], ?_, hS.pick [5]⟩
              exact rfl
            ·
              exfalso; omega
end Go.Proofs.YtnehocjmgnhhhaaDoor
