import Derived.Test.YtnehocjmgnhhhaaDoorFpl
import Derived.Test.YtnehocjmgnhhhaaDoorFbu
/- Reports: the lines of calls. -/
namespace Go.Proofs.YtnehocjmgnhhhaaDoor
open Go.RowKit
set_option linter.unusedVariables false
attribute [local irreducible] K.KW K.RW K.DW K.OW K.QR K.KC
def allMay (L : List CallM) : Prop := ∀ q, q < L.length → (L.getD q call0).may
def allFit (L : List CallM) : Prop := ∀ q, (L.getD q call0).fits
instance (L : List CallM) : Decidable (allMay L) := inferInstanceAs (Decidable (∀ q, q < L.length → (L.getD q call0).may))
/-- the lines of calls -/
def tabR (L : List CallM) : List UInt8 := (L.map fun c => lineR c ++ [10]).flatten
theorem tabR_next {L : List CallM} {j : Nat} (h : j < L.length) : tabR (L.take (j + 1)) = tabR (L.take j) ++ (lineR (L.getD j call0) ++ [10]) := by
  unfold tabR
  rw [List.take_succ_eq_append_getElem h, List.map_append, List.flatten_append]
  simp [h]
set_option maxHeartbeats 4000000 in
set_option maxRecDepth 100000 in
theorem table_ok (w0 : World) (a : Option Addr) (cap : Nat) (L : List CallM) (hm : L.length ≤ 1000000) (hf : allFit L) (gx : K.Cs) (hx : ∀ w, K.Sat w0 [gx] w → K.RowE w a L.length 11 (fun i => cCall (L.getD i call0))) :
    K.GC Tryd.prog w0 15 #[.slice a L.length cap] [gx] (fun v post => post = [gx] ∧ ((allMay L ∧ v = .tuple #[.string (K.sb (tabR L)), .int .i64 0]) ∨ (¬ allMay L ∧ v = .tuple #[.string (K.sb []), .int .i64 1]))) := by
  refine K.GC.mk (n := 28) Tryd.func15 rfl rfl [.slice a L.length cap] rfl rfl ?_
  intro fr w hS
  replace hS : K.Sat w0 [gx, fr] w := hS
  refine K.KW.seq ?_
  -- 0 :135
  refine K.KW.region ?_
  refine K.RW.qs [.string (K.sb []), .int .i64 0] (by kernel_rfl) ?_
  refine K.RW.nil ?_
  refine K.thn_normal ?_
  refine K.KW.seq ?_
  -- 1 :136
  refine K.KW.region ?_
  refine K.RW.l rfl (K.OW.gnew 83 [.pointer none, .slice none 0 0] hS ?_)
  clear hS; intro w r_1 g_2 hg_3 hS
  refine K.RW.nil ?_
  refine K.thn_normal ?_
  refine K.KW.seq ?_
  refine K.KW.seq ?_
  -- 2 :137
  have hbl_4 : BldG g_2 r_1 [] := bldNew hg_3
  refine K.KW.region ?_
  refine K.RW.qs [.slice a L.length cap] (by kernel_rfl) ?_
  refine K.RW.q rfl rfl (K.QR.len (P := Tryd.prog) rfl rfl Tryd.underlying38) ?_
  refine K.RW.qs [.int .i64 0] (by kernel_rfl) ?_
  refine K.RW.nil ?_
  refine K.thn_normal ?_
  refine K.KW.block ?_
  refine K.KW.loop (fun m_ F_ w_ => ∃ (j : Nat) (o : List UInt8) (g1 : K.Cs), m_ = L.length - j ∧ K.Sl F_ [(0, .slice a L.length cap), (4, .pointer (some ⟨r_1, 0, none⟩)), (9, .slice a L.length cap), (10, .int .i64 ((L.length : Nat) : Int)), (11, .int .i64 ((j : Nat) : Int)), (28, undef)] ∧ j ≤ L.length ∧ o = tabR (L.take j) ∧ (∀ q, q < j → (L.getD q call0).may) ∧ o.length ≤ 301 * j ∧ BldG g1 r_1 o ∧ K.Sat w0 [g1, gx, fr] w_) ((fun (j : Nat) (o : List UInt8) => L.length - j) 0 []) ?_ ?_
  · -- begins
    exact ⟨0, [], g_2, rfl, ⟨by rfl, by rfl, by rfl, by rfl, by rfl, by rfl, trivial⟩, (by omega), (rfl), (fun q hq => by omega), (by simp), hbl_4, hS.pick [0, 1, 2]⟩
  · -- a round
    clear hS
    intro m_5 F_6 w hI
    obtain ⟨j, o, g1, rfl, sl_7, p_8, ho, hmy, p_9, x_10, hS⟩ := hI
    rw [← K.Sl.puts sl_7]; clear sl_7
    refine K.KW.seq ?_
    -- 3 :137
    refine K.KW.region ?_
    by_cases h_11 : (((j : Nat) : Int) : Int) < (((L.length : Nat) : Int) : Int)
    ·  -- yes
      refine K.RW.q rfl rfl (K.QR.nice (v := .bool (decide ((((j : Nat) : Int) : Int) < (((L.length : Nat) : Int) : Int)))) (by kernel_rfl) (congrArg Value.bool (decide_eq_true h_11))) ?_
      refine K.RW.nil ?_
      refine K.thn_normal ?_
      refine K.KW.seq ?_
      refine K.KW.ifT rfl ?_
      refine K.KW.skip ?_
      refine K.thn_normal ?_
      refine K.KW.seq ?_
      refine K.KW.block ?_
      refine K.KW.seq ?_
      -- 4 :137
      obtain ⟨b_12, of_13, rfl, _⟩ := (hx _ (hS.pick [1])).at_ (by omega)
      refine K.KW.region ?_
      refine K.RW.q rfl rfl (K.QR.ix (of_13 + j * 11) 11 rfl rfl rfl Tryd.underlying38 (by kernel_rfl) (by omega) (by first | (simp; done) | omega | (simp; omega))) ?_
      refine K.RW.q rfl rfl (K.QR.ldN [.int .i64 ((L.getD j call0).th), .int .i64 ((L.getD j call0).ok), .int .u32 ((L.getD j call0).key), .int .u32 ((L.getD j call0).val), .int .i64 ((L.getD j call0).rk), .int .u32 ((L.getD j call0).rv), .int .i64 ((L.getD j call0).beg), .int .i64 ((L.getD j call0).en), .int .i64 ((L.getD j call0).wh), .bool ((L.getD j call0).cr), .bool ((L.getD j call0).kp)] rfl rfl (by kernel_rfl) (by kernel_rfl) (K.cells (K.cl ((hx _ (hS.pick [1])).ld j (by omega) 0 _ rfl) (K.cl ((hx _ (hS.pick [1])).ld j (by omega) 1 _ rfl) (K.cl ((hx _ (hS.pick [1])).ld j (by omega) 2 _ rfl) (K.cl ((hx _ (hS.pick [1])).ld j (by omega) 3 _ rfl) (K.cl ((hx _ (hS.pick [1])).ld j (by omega) 4 _ rfl) (K.cl ((hx _ (hS.pick [1])).ld j (by omega) 5 _ rfl) (K.cl ((hx _ (hS.pick [1])).ld j (by omega) 6 _ rfl) (K.cl ((hx _ (hS.pick [1])).ld j (by omega) 7 _ rfl) (K.cl ((hx _ (hS.pick [1])).ld j (by omega) 8 _ rfl) (K.cl ((hx _ (hS.pick [1])).ld j (by omega) 9 _ rfl) (K.cl ((hx _ (hS.pick [1])).ld j (by omega) 10 _ rfl) K.cl0))))))))))))) ?_
      refine K.RW.l rfl (K.OW.gnew 29 [.int .i64 0, .int .i64 0, .int .u32 0, .int .u32 0, .int .i64 0, .int .u32 0, .int .i64 0, .int .i64 0, .int .i64 0, .bool false, .bool false] hS ?_)
      clear hS; intro w r_14 g_15 hg_16 hS
      refine K.RW.l rfl (K.OW.gst 0 [.int .i64 ((L.getD j call0).th), .int .i64 ((L.getD j call0).ok), .int .u32 ((L.getD j call0).key), .int .u32 ((L.getD j call0).val), .int .i64 ((L.getD j call0).rk), .int .u32 ((L.getD j call0).rv), .int .i64 ((L.getD j call0).beg), .int .i64 ((L.getD j call0).en), .int .i64 ((L.getD j call0).wh), .bool ((L.getD j call0).cr), .bool ((L.getD j call0).kp)] [.int .i64 ((L.getD j call0).th), .int .i64 ((L.getD j call0).ok), .int .u32 ((L.getD j call0).key), .int .u32 ((L.getD j call0).val), .int .i64 ((L.getD j call0).rk), .int .u32 ((L.getD j call0).rv), .int .i64 ((L.getD j call0).beg), .int .i64 ((L.getD j call0).en), .int .i64 ((L.getD j call0).wh), .bool ((L.getD j call0).cr), .bool ((L.getD j call0).kp)] hS hg_16 ?_)
      clear hS; intro w g_17 hg_18 hS
      replace hS : K.Sat w0 [g_17, g1, gx, fr] w := hS
      refine K.RW.nil ?_
      refine K.thn_normal ?_
      refine K.KW.seq ?_
      -- 5 :138
      refine K.KW.region ?_
      refine K.RW.q rfl rfl (K.QR.ldN [.int .i64 ((L.getD j call0).th), .int .i64 ((L.getD j call0).ok), .int .u32 ((L.getD j call0).key), .int .u32 ((L.getD j call0).val), .int .i64 ((L.getD j call0).rk), .int .u32 ((L.getD j call0).rv), .int .i64 ((L.getD j call0).beg), .int .i64 ((L.getD j call0).en), .int .i64 ((L.getD j call0).wh), .bool ((L.getD j call0).cr), .bool ((L.getD j call0).kp)] rfl rfl (by kernel_rfl) (by kernel_rfl) (K.cells (K.cl ((hS.blk 0 rfl hg_18).cell rfl) (K.cl ((hS.blk 0 rfl hg_18).cell rfl) (K.cl ((hS.blk 0 rfl hg_18).cell rfl) (K.cl ((hS.blk 0 rfl hg_18).cell rfl) (K.cl ((hS.blk 0 rfl hg_18).cell rfl) (K.cl ((hS.blk 0 rfl hg_18).cell rfl) (K.cl ((hS.blk 0 rfl hg_18).cell rfl) (K.cl ((hS.blk 0 rfl hg_18).cell rfl) (K.cl ((hS.blk 0 rfl hg_18).cell rfl) (K.cl ((hS.blk 0 rfl hg_18).cell rfl) (K.cl ((hS.blk 0 rfl hg_18).cell rfl) K.cl0))))))))))))) ?_
      refine K.RW.l rfl (K.OW.gcall hS [] [0, 1, 2, 3] [.agg #[.int .i64 ((L.getD j call0).th), .int .i64 ((L.getD j call0).ok), .int .u32 ((L.getD j call0).key), .int .u32 ((L.getD j call0).val), .int .i64 ((L.getD j call0).rk), .int .u32 ((L.getD j call0).rv), .int .i64 ((L.getD j call0).beg), .int .i64 ((L.getD j call0).en), .int .i64 ((L.getD j call0).wh), .bool ((L.getD j call0).cr), .bool ((L.getD j call0).kp)]] (line_ok _ (L.getD j call0) (hf j)) ?_)
      clear hS; rintro _ _ w ⟨rfl, (⟨h_19, rfl⟩ | ⟨h_20, rfl⟩)⟩ hS
      ·
        replace hS : K.Sat w0 [g_17, g1, gx, fr] w := hS
        refine K.RW.qs [.tuple #[.string (K.sb (lineR (L.getD j call0))), .int .i64 0], .string (K.sb (lineR (L.getD j call0))), .int .i64 0, .string (K.sb (lineR (L.getD j call0))), .int .i64 0] (by kernel_rfl) ?_
        refine K.RW.nil ?_
        refine K.thn_normal ?_
        refine K.KW.seq ?_
        refine K.KW.seq ?_
        -- 6 :139
        refine K.KW.region ?_
        refine K.RW.qs [.int .i64 0, .bool false] (by kernel_rfl) ?_
        refine K.RW.nil ?_
        refine K.thn_normal ?_
        refine K.KW.ifF rfl ?_
        refine K.KW.skip ?_
        refine K.thn_normal ?_
        -- 8 :142
        have hll := lineR_len h_19 (hf j)
        refine K.KW.region ?_
        refine K.RW.qs [.string (K.sb (lineR (L.getD j call0)))] (by kernel_rfl) ?_
        refine K.RW.q rfl rfl (K.QR.sAdd (xs := (lineR (L.getD j call0))) (ys := [10]) rfl rfl rfl (by (try simp only [List.length_append, List.length_cons, List.length_nil] at *); omega)) ?_
        refine K.RW.l rfl (K.OW.gcall hS [1] [0, 2, 3] [.pointer (some ⟨r_1, 0, none⟩), .string (K.sb ((lineR (L.getD j call0)) ++ ([10] : List UInt8)))] (write_ok _ _ _ o ((lineR (L.getD j call0)) ++ ([10] : List UInt8)) x_10 (by simp) (by (simp only [List.length_append, List.length_cons, List.length_nil]; omega))) ?_)
        clear hS; rintro _ _ w ⟨rfl, g_21, rfl, h_22⟩ hS
        replace hS : K.Sat w0 [g_21, g_17, gx, fr] w := hS
        refine K.RW.nil ?_
        refine K.blk_normal ?_
        refine K.thn_normal ?_
        -- 9 :137
        refine K.KW.region ?_
        refine K.RW.q rfl rfl (K.QR.n64 ((((j : Nat) : Int) : Int) + (1 : Int)) ((j + 1 : Nat) : Int) (by kernel_rfl) (by omega)) ?_
        refine K.RW.qs [.int .i64 ((j + 1 : Nat) : Int)] (by kernel_rfl) ?_
        refine K.RW.nil ?_
        refine K.thn_normal ?_
        refine ⟨_, ?_, j + 1, (o ++ ((lineR (L.getD j call0)) ++ ([10] : List UInt8))), g_21, rfl, ⟨by rfl, by rfl, by rfl, by rfl, by rfl, by rfl, trivial⟩, (by omega), (by rw [ho, tabR_next (by omega)]), (K.all_snoc hmy h_19), (by (simp only [List.length_append, List.length_cons, List.length_nil]; omega)), h_22, hS.pick [0, 2, 3]⟩
        omega
      ·
        replace hS : K.Sat w0 [g_17, g1, gx, fr] w := hS
        refine K.RW.qs [.tuple #[.string (K.sb []), .int .i64 1], .string (K.sb []), .int .i64 1, .string (K.sb []), .int .i64 1] (by kernel_rfl) ?_
        refine K.RW.nil ?_
        refine K.thn_normal ?_
        refine K.KW.seq ?_
        refine K.KW.seq ?_
        -- 6 :139
        refine K.KW.region ?_
        refine K.RW.qs [.int .i64 1, .bool true] (by kernel_rfl) ?_
        refine K.RW.nil ?_
        refine K.thn_normal ?_
        refine K.KW.ifT rfl ?_
        refine K.KW.seq ?_
        -- 7 :140
        refine K.KW.region ?_
        refine K.RW.qs [.int .i64 1, .string (K.sb []), .int .i64 1] (by kernel_rfl) ?_
        refine K.RW.nil ?_
        refine K.thn_normal ?_
        refine K.KW.ret ?_
        refine K.thn_ret ?_
        refine K.blk_ret ?_
        refine K.thn_ret ?_
        refine K.thn_ret ?_
        refine K.blk_ret ?_
        refine K.thn_ret ?_
        refine ⟨.inr rfl, rfl, (.tuple #[.string (K.sb []), .int .i64 1]), K.res2 rfl rfl rfl, [gx], ?_, hS.pick [2, 3]⟩
        exact ⟨rfl, .inr ⟨fun hh => absurd (hh j (by omega)) h_20, rfl⟩⟩
    ·  -- no
      refine K.RW.q rfl rfl (K.QR.nice (v := .bool (decide ((((j : Nat) : Int) : Int) < (((L.length : Nat) : Int) : Int)))) (by kernel_rfl) (congrArg Value.bool (decide_eq_false h_11))) ?_
      refine K.RW.nil ?_
      refine K.thn_normal ?_
      refine K.KW.seq ?_
      refine K.KW.ifF rfl ?_
      refine K.KW.exit ?_
      refine K.thn_exit ?_
      refine K.thn_exit ?_
      refine K.blk_hit ?_
      refine K.thn_normal ?_
      refine K.KW.seq ?_
      -- 10 :144
      refine K.KW.region ?_
      refine K.RW.l rfl (K.OW.gcall hS [0] [1, 2] [.pointer (some ⟨r_1, 0, none⟩)] (bstring_ok _ _ _ o x_10) ?_)
      clear hS; rintro _ _ w ⟨rfl, rfl⟩ hS
      replace hS : K.Sat w0 [gx, fr] w := hS
      refine K.RW.qs [.string (K.sb o), .int .i64 0] (by kernel_rfl) ?_
      refine K.RW.nil ?_
      refine K.thn_normal ?_
      refine K.KW.ret ?_
      have e : L.take j = L := List.take_of_length_le (by omega)
      rw [e] at ho
      refine ⟨.inr rfl, rfl, (.tuple #[.string (K.sb o), .int .i64 0]), K.res2 rfl rfl rfl, [gx], ?_, hS.pick [0, 1]⟩
      exact ⟨rfl, .inl ⟨fun q hq => hmy q (by omega), by rw [← ho]⟩⟩
end Go.Proofs.YtnehocjmgnhhhaaDoor
