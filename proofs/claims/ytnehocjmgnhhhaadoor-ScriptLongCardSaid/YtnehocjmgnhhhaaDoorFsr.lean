import Derived.Test.YtnehocjmgnhhhaaDoorFrp3
/- Reports: the document's digits, numbers, names. -/
namespace Go.Proofs.YtnehocjmgnhhhaaDoor
open Go.RowKit
set_option linter.unusedVariables false
attribute [local irreducible] K.KW K.RW K.DW K.OW K.QR K.KC
set_option maxHeartbeats 1000000 in
set_option maxRecDepth 100000 in
theorem rdigits_ok (w0 : World) (n : Nat) (hn : n ≤ 9223372036854775807) :
    K.GC Tryd.prog w0 30 #[.int .i64 ((n : Nat) : Int)] [] (fun v post => post = [] ∧ v = .string (K.sb (dg n))) := by
  refine K.GC.mk (n := 23) Tryd.func30 rfl rfl [.int .i64 ((n : Nat) : Int)] rfl rfl ?_
  intro fr w hS
  replace hS : K.Sat w0 [fr] w := hS
  refine K.KW.seq ?_
  -- 0 :160
  refine K.KW.region ?_
  refine K.RW.qs [.string (K.sb [])] (by kernel_rfl) ?_
  refine K.RW.nil ?_
  refine K.thn_normal ?_
  refine K.KW.seq ?_
  -- 1 :161
  refine K.KW.region ?_
  refine K.RW.qs [.string (K.sb [])] (by kernel_rfl) ?_
  refine K.RW.nil ?_
  refine K.thn_normal ?_
  refine K.KW.seq ?_
  refine K.KW.block ?_
  refine K.KW.loop (fun m_ F_ w_ => ∃ (m : Nat) (z : List UInt8), m_ = 2 * m ∧ K.Sl F_ [(0, .int .i64 ((m : Nat) : Int)), (2, .string (K.sb [])), (3, .string (K.sb z)), (23, undef)] ∧ m ≤ n ∧ dg m ++ z = dg n ∧ K.Sat w0 [fr] w_) ((fun (m : Nat) (z : List UInt8) => 2 * m) n []) ?_ ?_
  · -- begins
    exact ⟨n, [], rfl, ⟨by rfl, by rfl, by rfl, by rfl, trivial⟩, (by omega), (by simp), hS.pick [0]⟩
  · -- a round
    clear hS
    intro m_1 F_2 w hI
    obtain ⟨m, z, rfl, sl_3, p_4, hz, hS⟩ := hI
    rw [← K.Sl.puts sl_3]; clear sl_3
    refine K.KW.seq ?_
    refine K.KW.seq ?_
    -- 2 :162
    refine K.KW.region ?_
    refine K.RW.qs [.int .i64 ((m : Nat) : Int)] (by kernel_rfl) ?_
    by_cases h_5 : (((m : Nat) : Int) : Int) ≥ (10 : Int)
    ·  -- yes
      refine K.RW.q rfl rfl (K.QR.nice (v := .bool (decide ((((m : Nat) : Int) : Int) ≥ (10 : Int)))) (by kernel_rfl) (congrArg Value.bool (decide_eq_true h_5))) ?_
      refine K.RW.nil ?_
      refine K.thn_normal ?_
      refine K.KW.ifT rfl ?_
      refine K.KW.skip ?_
      refine K.thn_normal ?_
      refine K.KW.block ?_
      refine K.KW.seq ?_
      -- 3 :163
      refine K.KW.region ?_
      refine K.RW.qs [.int .i64 ((m : Nat) : Int)] (by kernel_rfl) ?_
      refine K.RW.q rfl rfl (K.QR.remi64 (((m : Nat) : Int) : Int) 10 ((m % 10 : Nat) : Int) (by kernel_rfl) (by omega) (by omega)) ?_
      refine K.RW.q rfl rfl (K.QR.n64 ((48 : Int) + (((m % 10 : Nat) : Int) : Int)) ((48 + m % 10 : Nat) : Int) (by kernel_rfl) (by omega)) ?_
      refine K.RW.q rfl rfl (K.QR.nice (v := .int .u8 (IntKind.u8.wrap ((48 + m % 10 : Nat) : Int))) (by kernel_rfl) (congrArg (Value.int .u8) (IntWalk.u8_in _ (by omega)))) ?_
      refine K.RW.l rfl (K.OW.gbs [(0, .int .u8 ((48 + m % 10 : Nat) : Int))] [.int .u8 ((48 + m % 10 : Nat) : Int)] hS (fun w => K.bs_run (P := Tryd.prog) w 66 5 1 _ _ Tryd.underlying66 (by kernel_rfl)) ?_)
      clear hS; intro w r_6 g_7 hg_8 hS
      refine K.RW.q rfl rfl (K.QR.sOf (xs := [(((48 + m % 10 : Nat) : Int) : Int)]) (ys := [UInt8.ofNat (48 + m % 10)]) rfl rfl Tryd.underlying66 Tryd.underlying5 Tryd.underlying9 rfl (K.Blk.rowE (c := cU8) 0 (L := [(((48 + m % 10 : Nat) : Int) : Int)]) (hS.blk 0 rfl hg_8) (fun _ => rfl) rfl) (rfl)) ?_
      refine K.RW.qs [.string (K.sb z)] (by kernel_rfl) ?_
      refine K.RW.q rfl rfl (K.QR.sAdd (xs := [UInt8.ofNat (48 + m % 10)]) (ys := z) rfl rfl rfl (by have h1 := congrArg List.length hz; have h2 := dg_len20 hn; rw [List.length_append] at h1; (try simp only [List.length_append, List.length_cons, List.length_nil] at *); omega)) ?_
      refine K.RW.qs [.string (K.sb ([UInt8.ofNat (48 + m % 10)] ++ z))] (by kernel_rfl) ?_
      refine K.RW.nil ?_
      refine K.thn_normal ?_
      -- 4 :164
      refine K.KW.region ?_
      refine K.RW.qs [.int .i64 ((m : Nat) : Int)] (by kernel_rfl) ?_
      refine K.RW.q rfl rfl (K.QR.quoi64 (((m : Nat) : Int) : Int) 10 ((m / 10 : Nat) : Int) (by kernel_rfl) (by omega) (by omega)) ?_
      refine K.RW.qs [.int .i64 ((m / 10 : Nat) : Int)] (by kernel_rfl) ?_
      refine K.RW.nil ?_
      refine K.blk_normal ?_
      refine K.thn_normal ?_
      refine ⟨_, ?_, m / 10, ([UInt8.ofNat (48 + m % 10)] ++ z), rfl, ⟨by rfl, by rfl, by rfl, by rfl, trivial⟩, (by omega), (by rw [← hz, dg_ge (n := m) (by omega)]; simp), hS.pick [1]⟩
      omega
    ·  -- no
      refine K.RW.q rfl rfl (K.QR.nice (v := .bool (decide ((((m : Nat) : Int) : Int) ≥ (10 : Int)))) (by kernel_rfl) (congrArg Value.bool (decide_eq_false h_5))) ?_
      refine K.RW.nil ?_
      refine K.thn_normal ?_
      refine K.KW.ifF rfl ?_
      refine K.KW.exit ?_
      refine K.thn_exit ?_
      refine K.thn_exit ?_
      refine K.blk_hit ?_
      refine K.thn_normal ?_
      refine K.KW.seq ?_
      -- 5 :166
      refine K.KW.region ?_
      refine K.RW.qs [.int .i64 ((m : Nat) : Int)] (by kernel_rfl) ?_
      refine K.RW.q rfl rfl (K.QR.n64 ((48 : Int) + (((m : Nat) : Int) : Int)) ((48 + m : Nat) : Int) (by kernel_rfl) (by omega)) ?_
      refine K.RW.q rfl rfl (K.QR.nice (v := .int .u8 (IntKind.u8.wrap ((48 + m : Nat) : Int))) (by kernel_rfl) (congrArg (Value.int .u8) (IntWalk.u8_in _ (by omega)))) ?_
      refine K.RW.l rfl (K.OW.gbs [(0, .int .u8 ((48 + m : Nat) : Int))] [.int .u8 ((48 + m : Nat) : Int)] hS (fun w => K.bs_run (P := Tryd.prog) w 66 5 1 _ _ Tryd.underlying66 (by kernel_rfl)) ?_)
      clear hS; intro w r_9 g_10 hg_11 hS
      refine K.RW.q rfl rfl (K.QR.sOf (xs := [(((48 + m : Nat) : Int) : Int)]) (ys := [UInt8.ofNat (48 + m)]) rfl rfl Tryd.underlying66 Tryd.underlying5 Tryd.underlying9 rfl (K.Blk.rowE (c := cU8) 0 (L := [(((48 + m : Nat) : Int) : Int)]) (hS.blk 0 rfl hg_11) (fun _ => rfl) rfl) (rfl)) ?_
      refine K.RW.qs [.string (K.sb z)] (by kernel_rfl) ?_
      refine K.RW.q rfl rfl (K.QR.sAdd (xs := [UInt8.ofNat (48 + m)]) (ys := z) rfl rfl rfl (by have h1 := congrArg List.length hz; have h2 := dg_len20 hn; rw [List.length_append] at h1; (try simp only [List.length_append, List.length_cons, List.length_nil] at *); omega)) ?_
      refine K.RW.qs [.string (K.sb ([UInt8.ofNat (48 + m)] ++ z))] (by kernel_rfl) ?_
      refine K.RW.nil ?_
      refine K.thn_normal ?_
      refine K.KW.ret ?_
      refine ⟨.inr rfl, rfl, (.string (K.sb ([UInt8.ofNat (48 + m)] ++ z))), K.res1 rfl rfl, [], ?_, hS.pick [1]⟩
      exact ⟨rfl, by rw [← hz, dg_lt (n := m) (by omega)]⟩
/-- a time, as the document reads it: -2 is no time -/
def whenT (x : List UInt8) : Int := if x = [45] then -1 else if numR x 1099511627776 = -1 then -2 else numR x 1099511627776
end Go.Proofs.YtnehocjmgnhhhaaDoor
