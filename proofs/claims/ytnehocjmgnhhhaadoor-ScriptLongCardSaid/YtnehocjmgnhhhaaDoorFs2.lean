import Derived.Test.YtnehocjmgnhhhaaDoorFs
/- Strings: Split, Cut, Index; the document's Split. -/
namespace Go.Proofs.YtnehocjmgnhhhaaDoor
open Go.RowKit
set_option linter.unusedVariables false
attribute [local irreducible] K.KW K.RW K.DW K.OW K.QR K.KC
set_option maxHeartbeats 1000000 in
set_option maxRecDepth 100000 in
theorem split_ok (w0 : World) (l : List UInt8) (c : UInt8) (hl : l.length < 4294967281) :
    K.GC Tryd.prog w0 31 #[.string (K.sb l), .string (K.sb [c])] [] (fun v post => ∃ r g, post = [g] ∧ v = .slice (some ⟨r, 0, none⟩) (K.spl c l).length (K.spl c l).length ∧ K.OwnG g 9 1 (some ⟨r, 0, none⟩) (K.spl c l).length (K.spl c l).length ((K.spl c l).flatMap K.cStr)) := by
  refine K.GC.mk (n := 8) Tryd.func31 rfl rfl [.string (K.sb l), .string (K.sb [c])] rfl rfl ?_
  intro fr w hS
  replace hS : K.Sat w0 [fr] w := hS
  refine K.KW.seq ?_
  -- 0 :342
  refine K.KW.region ?_
  refine K.RW.qs [.slice none 0 0] (by kernel_rfl) ?_
  refine K.RW.nil ?_
  refine K.thn_normal ?_
  refine K.KW.seq ?_
  -- 1 :342
  refine K.KW.region ?_
  refine K.RW.qs [.string (K.sb l), .string (K.sb [c])] (by kernel_rfl) ?_
  refine K.RW.l rfl (K.OW.gcall hS [] [0] [.string (K.sb l), .string (K.sb [c]), .int .i64 0, .int .i64 (-1)] (genSplit_ok _ l c (by omega)) ?_)
  clear hS; rintro _ _ w ⟨r_1, g_2, rfl, rfl, o_3⟩ hS
  replace hS : K.Sat w0 [g_2, fr] w := hS
  refine K.RW.qs [.slice (some ⟨r_1, 0, none⟩) ((K.spl c l).length) ((K.spl c l).length)] (by kernel_rfl) ?_
  refine K.RW.nil ?_
  refine K.thn_normal ?_
  refine K.KW.ret ?_
  refine ⟨.inr rfl, rfl, (.slice (some ⟨r_1, 0, none⟩) ((K.spl c l).length) ((K.spl c l).length)), K.res1 rfl rfl, [g_2], ?_, hS.pick [0, 1]⟩
  exact ⟨r_1, g_2, rfl, rfl, o_3⟩
/-- a text cut at the first of a byte -/
def K.cutS (c : UInt8) (l : List UInt8) : List UInt8 × List UInt8 × Bool := if 0 ≤ Lib.index l [c] then (l.take (Lib.index l [c]).toNat, l.drop ((Lib.index l [c]).toNat + 1), true) else (l, [], false)
theorem K.index_lt {l : List UInt8} {c : UInt8} (h : 0 ≤ Lib.index l [c]) : (Lib.index l [c]).toNat < l.length := by
  obtain ⟨o, ho⟩ : ∃ o : Nat, Lib.index l [c] = o := ⟨(Lib.index l [c]).toNat, by omega⟩
  have h1 := (K.index_some1 ho).1
  have := congrArg List.length h1
  rw [List.length_append, List.length_cons, List.length_take, List.length_drop] at this
  rw [ho]; show o < _; omega
set_option maxHeartbeats 1000000 in
set_option maxRecDepth 100000 in
theorem cut0_ok (w0 : World) (l : List UInt8) (c : UInt8) (hl : l.length < 4294967281) :
    K.GC Tryd.prog w0 96 #[.string (K.sb l), .string (K.sb [c])] [] (fun v post => post = [] ∧ v = .tuple #[.string (K.sb (K.cutS c l).1), .string (K.sb (K.cutS c l).2.1), .bool (K.cutS c l).2.2]) := by
  refine K.GC.mk (n := 23) Tryd.func96 rfl rfl [.string (K.sb l), .string (K.sb [c])] rfl rfl ?_
  intro fr w hS
  replace hS : K.Sat w0 [fr] w := hS
  refine K.KW.seq ?_
  -- 0 :80
  refine K.KW.region ?_
  refine K.RW.qs [.string (K.sb []), .string (K.sb []), .bool false] (by kernel_rfl) ?_
  refine K.RW.nil ?_
  refine K.thn_normal ?_
  refine K.KW.seq ?_
  refine K.KW.seq ?_
  -- 1 :81
  refine K.KW.region ?_
  refine K.RW.qs [.string (K.sb l), .string (K.sb [c])] (by kernel_rfl) ?_
  refine K.RW.l rfl (K.OW.gcall hS [] [0] [.string (K.sb l), .string (K.sb [c])] (index1_ok _ l c) ?_)
  clear hS; rintro _ _ w ⟨rfl, rfl⟩ hS
  replace hS : K.Sat w0 [fr] w := hS
  refine K.RW.qs [.int .i64 (Lib.index l [c])] (by kernel_rfl) ?_
  refine K.RW.nil ?_
  refine K.thn_normal ?_
  refine K.KW.seq ?_
  -- 2 :81
  refine K.KW.region ?_
  refine K.RW.qs [.int .i64 (Lib.index l [c])] (by kernel_rfl) ?_
  by_cases h_1 : (Lib.index l [c] : Int) ≥ (0 : Int)
  ·  -- yes
    refine K.RW.q rfl rfl (K.QR.nice (v := .bool (decide ((Lib.index l [c] : Int) ≥ (0 : Int)))) (by kernel_rfl) (congrArg Value.bool (decide_eq_true h_1))) ?_
    refine K.RW.nil ?_
    refine K.thn_normal ?_
    refine K.KW.ifT rfl ?_
    refine K.KW.seq ?_
    -- 3 :82
    have hlt := K.index_lt (l := l) (c := c) (by omega)
    obtain ⟨i, hi⟩ : ∃ i : Nat, Lib.index l [c] = i := ⟨(Lib.index l [c]).toNat, by omega⟩
    rw [hi, Int.toNat_natCast] at hlt
    rw [hi]
    refine K.KW.gdrawn [] hS (by kernel_rfl) ?_
    clear hS; intro w hS
    refine K.DW.q 0 (by kernel_rfl) rfl rfl (by kernel_rfl) rfl (fun w hS => K.QR.k (v := .string (K.sb l)) (by kernel_rfl)) (hS.pick []) ?_
    refine K.DW.q 1 (by kernel_rfl) rfl rfl (by kernel_rfl) rfl (fun w hS => K.QR.k (v := .int .i64 ((i : Nat) : Int)) (by kernel_rfl)) (hS.pick []) ?_
    refine K.DW.q 2 (by kernel_rfl) rfl rfl (by kernel_rfl) rfl (fun w hS => K.QR.sSlHi (h := i) (xs := l) rfl rfl rfl Tryd.underlying9 (by omega)) (hS.pick []) ?_
    refine K.DW.q 3 (by kernel_rfl) rfl rfl (by kernel_rfl) rfl (fun w hS => K.QR.k (v := .string (K.sb l)) (by kernel_rfl)) (hS.pick []) ?_
    refine K.DW.q 4 (by kernel_rfl) rfl rfl (by kernel_rfl) rfl (fun w hS => K.QR.k (v := .int .i64 ((i : Nat) : Int)) (by kernel_rfl)) (hS.pick []) ?_
    refine K.DW.q 5 (by kernel_rfl) rfl rfl (by kernel_rfl) rfl (fun w hS => K.QR.k (v := .string (K.sb [c])) (by kernel_rfl)) (hS.pick []) ?_
    refine K.DW.q 6 (by kernel_rfl) rfl rfl (by kernel_rfl) rfl (fun w hS => K.QR.turn (K.QR.sLen (xs := [c]) rfl rfl Tryd.underlying9) rfl) (hS.pick []) ?_
    refine K.DW.q 7 (by kernel_rfl) rfl rfl (by kernel_rfl) rfl (fun w hS => K.QR.n64 ((((i : Nat) : Int) : Int) + (1 : Int)) ((i + 1 : Nat) : Int) (by kernel_rfl) (by omega)) (hS.pick []) ?_
    refine K.DW.q 8 (by kernel_rfl) rfl rfl (by kernel_rfl) rfl (fun w hS => K.QR.sSlLo (l := (i + 1)) (xs := l) rfl rfl rfl Tryd.underlying9 (by omega)) (hS.pick []) ?_
    refine K.DW.l 9 rfl (by kernel_rfl) rfl (K.OW.q rfl (K.QR.k (v := .string (K.sb (l.take i))) (by kernel_rfl)) ?_)
    refine ⟨.inl (hS.pick []), ?_⟩
    refine K.DW.l 10 rfl (by kernel_rfl) rfl (K.OW.q rfl (K.QR.k (v := .string (K.sb (l.drop (i + 1)))) (by kernel_rfl)) ?_)
    refine ⟨.inl (hS.pick []), ?_⟩
    refine K.DW.l 11 rfl (by kernel_rfl) rfl (K.OW.q rfl (K.QR.k (v := .bool true) (by kernel_rfl)) ?_)
    refine ⟨.inl (hS.pick []), ?_⟩
    refine K.DW.done (by kernel_rfl) ?_
    refine K.thn_normal ?_
    refine K.KW.ret ?_
    refine K.thn_ret ?_
    refine ⟨.inr rfl, rfl, (.tuple #[.string (K.sb (l.take i)), .string (K.sb (l.drop (i + 1))), .bool true]), K.resAt (rs := [.tmp 4, .tmp 5, .tmp 6]) [.string (K.sb (l.take i)), .string (K.sb (l.drop (i + 1))), .bool true] rfl ⟨rfl, rfl, rfl, trivial⟩, [], ?_, hS.pick [0]⟩
    refine ⟨rfl, ?_⟩
    have e : K.cutS c l = (l.take i, l.drop (i + 1), true) := by unfold K.cutS; rw [if_pos (by omega), hi, Int.toNat_natCast]
    rw [e]
  ·  -- no
    refine K.RW.q rfl rfl (K.QR.nice (v := .bool (decide ((Lib.index l [c] : Int) ≥ (0 : Int)))) (by kernel_rfl) (congrArg Value.bool (decide_eq_false h_1))) ?_
    refine K.RW.nil ?_
    refine K.thn_normal ?_
    refine K.KW.ifF rfl ?_
    refine K.KW.skip ?_
    refine K.thn_normal ?_
    refine K.KW.seq ?_
    -- 4 :84
    refine K.KW.region ?_
    refine K.RW.qs [.string (K.sb l), .string (K.sb l), .string (K.sb []), .bool false] (by kernel_rfl) ?_
    refine K.RW.nil ?_
    refine K.thn_normal ?_
    refine K.KW.ret ?_
    refine ⟨.inr rfl, rfl, (.tuple #[.string (K.sb l), .string (K.sb []), .bool false]), K.resAt (rs := [.tmp 4, .tmp 5, .tmp 6]) [.string (K.sb l), .string (K.sb []), .bool false] rfl ⟨rfl, rfl, rfl, trivial⟩, [], ?_, hS.pick [0]⟩
    refine ⟨rfl, ?_⟩
    have e : K.cutS c l = (l, [], false) := by unfold K.cutS; rw [if_neg (by omega)]
    rw [e]
set_option maxHeartbeats 1000000 in
set_option maxRecDepth 100000 in
theorem cut_ok (w0 : World) (l : List UInt8) (c : UInt8) (hl : l.length < 4294967281) :
    K.GC Tryd.prog w0 79 #[.string (K.sb l), .string (K.sb [c])] [] (fun v post => post = [] ∧ v = .tuple #[.string (K.sb (K.cutS c l).1), .string (K.sb (K.cutS c l).2.1), .bool (K.cutS c l).2.2]) := by
  refine K.GC.mk (n := 13) Tryd.func79 rfl rfl [.string (K.sb l), .string (K.sb [c])] rfl rfl ?_
  intro fr w hS
  replace hS : K.Sat w0 [fr] w := hS
  refine K.KW.seq ?_
  -- 0 :1271
  refine K.KW.region ?_
  refine K.RW.qs [.string (K.sb []), .string (K.sb []), .bool false] (by kernel_rfl) ?_
  refine K.RW.nil ?_
  refine K.thn_normal ?_
  refine K.KW.seq ?_
  -- 1 :1272
  refine K.KW.region ?_
  refine K.RW.qs [.string (K.sb l), .string (K.sb [c])] (by kernel_rfl) ?_
  refine K.RW.l rfl (K.OW.gcall hS [] [0] [.string (K.sb l), .string (K.sb [c])] (cut0_ok _ l c (by omega)) ?_)
  clear hS; rintro _ _ w ⟨rfl, rfl⟩ hS
  replace hS : K.Sat w0 [fr] w := hS
  refine K.RW.qs [.string (K.sb ((K.cutS c l).1)), .string (K.sb ((K.cutS c l).2.1)), .bool ((K.cutS c l).2.2), .string (K.sb ((K.cutS c l).1)), .string (K.sb ((K.cutS c l).2.1)), .bool ((K.cutS c l).2.2)] (by kernel_rfl) ?_
  refine K.RW.nil ?_
  refine K.thn_normal ?_
  refine K.KW.ret ?_
  refine ⟨.inr rfl, rfl, (.tuple #[.string (K.sb ((K.cutS c l).1)), .string (K.sb ((K.cutS c l).2.1)), .bool ((K.cutS c l).2.2)]), K.resAt (rs := [.tmp 4, .tmp 5, .tmp 6]) [.string (K.sb ((K.cutS c l).1)), .string (K.sb ((K.cutS c l).2.1)), .bool ((K.cutS c l).2.2)] rfl ⟨rfl, rfl, rfl, trivial⟩, [], ?_, hS.pick [0]⟩
  exact ⟨rfl, rfl⟩
/-- the place of a text in a list; -1: it is not there -/
def K.ixS (x : List UInt8) : List (List UInt8) → Int
  | [] => -1
  | a :: r => if x = a then 0 else if K.ixS x r = -1 then -1 else K.ixS x r + 1
theorem K.ixS_none {x : List UInt8} : ∀ {L : List (List UInt8)}, (∀ j, j < L.length → ¬ x = L.getD j []) → K.ixS x L = -1
  | [], _ => rfl
  | a :: r, h => by
    unfold K.ixS
    rw [if_neg (show ¬ x = a from h 0 (by simp)), K.ixS_none (L := r) (fun j hj => h (j + 1) (by simpa using hj)), if_pos rfl]
theorem K.ixS_ge (x : List UInt8) : ∀ L : List (List UInt8), -1 ≤ K.ixS x L
  | [] => by simp [K.ixS]
  | a :: r => by
    have := K.ixS_ge x r
    unfold K.ixS
    (repeat' split) <;> omega
theorem K.ixS_lt (x : List UInt8) : ∀ L : List (List UInt8), K.ixS x L < L.length
  | [] => by simp [K.ixS]
  | a :: r => by
    have := K.ixS_lt x r
    unfold K.ixS
    rw [List.length_cons]
    (repeat' split) <;> omega
theorem K.ixS_hit {x : List UInt8} : ∀ {L : List (List UInt8)} {i : Nat}, i < L.length → (∀ j, j < i → ¬ x = L.getD j []) → x = L.getD i [] → K.ixS x L = i
  | [], i, h, _, _ => by simp at h
  | a :: r, 0, _, _, he => by unfold K.ixS; rw [if_pos (by simpa using he)]; rfl
  | a :: r, i + 1, h, hn, he => by
    unfold K.ixS
    rw [if_neg (show ¬ x = a from hn 0 (by omega)), K.ixS_hit (L := r) (i := i) (by simpa using h) (fun j hj => hn (j + 1) (by omega)) (by simpa using he), if_neg (by omega)]
    omega
set_option maxHeartbeats 1000000 in
set_option maxRecDepth 100000 in
theorem ixs_ok (w0 : World) (a : Option Addr) (cap : Nat) (L : List (List UInt8)) (x : List UInt8) (hm : L.length ≤ 1000000) (gx : K.Cs) (hx : ∀ w, K.Sat w0 [gx] w → K.RowE w a L.length 1 (fun i => K.cStr (L.getD i []))) :
    K.GC Tryd.prog w0 36 #[.slice a L.length cap, .string (K.sb x)] [gx] (fun v post => post = [gx] ∧ v = .int .i64 (K.ixS x L)) := by
  refine K.GC.mk (n := 19) Tryd.func36 rfl rfl [.slice a L.length cap, .string (K.sb x)] rfl rfl ?_
  intro fr w hS
  replace hS : K.Sat w0 [gx, fr] w := hS
  refine K.KW.seq ?_
  -- 0 :96
  refine K.KW.region ?_
  refine K.RW.qs [.int .i64 0] (by kernel_rfl) ?_
  refine K.RW.nil ?_
  refine K.thn_normal ?_
  refine K.KW.seq ?_
  refine K.KW.seq ?_
  -- 1 :97
  refine K.KW.region ?_
  refine K.RW.qs [.slice a L.length cap] (by kernel_rfl) ?_
  refine K.RW.q rfl rfl (K.QR.len (P := Tryd.prog) rfl rfl Tryd.underlying68) ?_
  refine K.RW.qs [.int .i64 0] (by kernel_rfl) ?_
  refine K.RW.nil ?_
  refine K.thn_normal ?_
  refine K.KW.block ?_
  refine K.KW.loop (fun m_ F_ w_ => ∃ (i : Nat), m_ = L.length - i ∧ K.Sl F_ [(0, .slice a L.length cap), (1, .string (K.sb x)), (7, .int .i64 ((L.length : Nat) : Int)), (8, .int .i64 ((i : Nat) : Int)), (19, undef)] ∧ i ≤ L.length ∧ (∀ j, j < i → ¬ x = L.getD j []) ∧ K.Sat w0 [gx, fr] w_) ((fun (i : Nat) => L.length - i) 0) ?_ ?_
  · -- begins
    exact ⟨0, rfl, ⟨by rfl, by rfl, by rfl, by rfl, by rfl, trivial⟩, (by omega), (fun j hj => by omega), hS.pick [0, 1]⟩
  · -- a round
    clear hS
    intro m_1 F_2 w hI
    obtain ⟨i, rfl, sl_3, p_4, hix, hS⟩ := hI
    rw [← K.Sl.puts sl_3]; clear sl_3
    refine K.KW.seq ?_
    -- 2 :97
    refine K.KW.region ?_
    by_cases h_5 : (((i : Nat) : Int) : Int) < (((L.length : Nat) : Int) : Int)
    ·  -- yes
      refine K.RW.q rfl rfl (K.QR.nice (v := .bool (decide ((((i : Nat) : Int) : Int) < (((L.length : Nat) : Int) : Int)))) (by kernel_rfl) (congrArg Value.bool (decide_eq_true h_5))) ?_
      refine K.RW.nil ?_
      refine K.thn_normal ?_
      refine K.KW.seq ?_
      refine K.KW.ifT rfl ?_
      refine K.KW.skip ?_
      refine K.thn_normal ?_
      refine K.KW.seq ?_
      refine K.KW.block ?_
      refine K.KW.seq ?_
      -- 3 :97
      refine K.KW.region ?_
      refine K.RW.qs [.int .i64 ((i : Nat) : Int), .int .i64 ((i : Nat) : Int)] (by kernel_rfl) ?_
      refine K.RW.nil ?_
      refine K.thn_normal ?_
      refine K.KW.seq ?_
      -- 4 :98
      obtain ⟨b_6, of_7, rfl, _⟩ := (hx _ (hS.pick [0])).at_ (by omega)
      refine K.KW.region ?_
      refine K.RW.qs [.string (K.sb x), .slice (some ⟨b_6, of_7, none⟩) L.length cap, .int .i64 ((i : Nat) : Int)] (by kernel_rfl) ?_
      refine K.RW.q rfl rfl (K.QR.ix (of_7 + i * 1) 1 rfl rfl rfl Tryd.underlying68 (by kernel_rfl) (by omega) (by first | (simp; done) | omega | (simp; omega))) ?_
      refine K.RW.q rfl rfl (K.QR.ld1 (v := .string (K.sb (L.getD i []))) rfl rfl (by kernel_rfl) ((hx _ (hS.pick [0])).ld i (by omega) 0 _ rfl)) ?_
      by_cases h_8 : x = (L.getD i [])
      ·  -- yes
        refine K.RW.q rfl rfl (K.QR.sEq (xs := x) (ys := L.getD i []) true rfl rfl rfl (K.deq_t h_8)) ?_
        refine K.RW.nil ?_
        refine K.thn_normal ?_
        refine K.KW.ifT rfl ?_
        refine K.KW.seq ?_
        -- 5 :99
        refine K.KW.region ?_
        refine K.RW.qs [.int .i64 ((i : Nat) : Int), .int .i64 ((i : Nat) : Int)] (by kernel_rfl) ?_
        refine K.RW.nil ?_
        refine K.thn_normal ?_
        refine K.KW.ret ?_
        refine K.blk_ret ?_
        refine K.thn_ret ?_
        refine K.thn_ret ?_
        refine K.blk_ret ?_
        refine K.thn_ret ?_
        refine ⟨.inr rfl, rfl, (.int .i64 ((i : Nat) : Int)), K.res1 rfl rfl, [gx], ?_, hS.pick [0, 1]⟩
        exact ⟨rfl, by rw [K.ixS_hit (by omega) hix (by assumption)]⟩
      ·  -- no
        refine K.RW.q rfl rfl (K.QR.sEq (xs := x) (ys := L.getD i []) false rfl rfl rfl (K.deq_f h_8)) ?_
        refine K.RW.nil ?_
        refine K.thn_normal ?_
        refine K.KW.ifF rfl ?_
        refine K.KW.skip ?_
        refine K.blk_normal ?_
        refine K.thn_normal ?_
        -- 6 :97
        refine K.KW.region ?_
        refine K.RW.q rfl rfl (K.QR.n64 ((((i : Nat) : Int) : Int) + (1 : Int)) ((i + 1 : Nat) : Int) (by kernel_rfl) (by omega)) ?_
        refine K.RW.qs [.int .i64 ((i + 1 : Nat) : Int)] (by kernel_rfl) ?_
        refine K.RW.nil ?_
        refine K.thn_normal ?_
        refine ⟨_, ?_, i + 1, rfl, ⟨by rfl, by rfl, by rfl, by rfl, by rfl, trivial⟩, (by omega), ((K.all_snoc hix (by assumption))), hS.pick [0, 1]⟩
        omega
    ·  -- no
      refine K.RW.q rfl rfl (K.QR.nice (v := .bool (decide ((((i : Nat) : Int) : Int) < (((L.length : Nat) : Int) : Int)))) (by kernel_rfl) (congrArg Value.bool (decide_eq_false h_5))) ?_
      refine K.RW.nil ?_
      refine K.thn_normal ?_
      refine K.KW.seq ?_
      refine K.KW.ifF rfl ?_
      refine K.KW.exit ?_
      refine K.thn_exit ?_
      refine K.thn_exit ?_
      refine K.blk_hit ?_
      refine K.thn_normal ?_
      refine K.KW.seq ?_
      -- 7 :102
      refine K.KW.region ?_
      refine K.RW.qs [.int .i64 (-1)] (by kernel_rfl) ?_
      refine K.RW.nil ?_
      refine K.thn_normal ?_
      refine K.KW.ret ?_
      refine ⟨.inr rfl, rfl, (.int .i64 (-1)), K.res1 rfl rfl, [gx], ?_, hS.pick [0, 1]⟩
      exact ⟨rfl, by rw [K.ixS_none (L := L) (fun j hj => hix j (by omega))]⟩
theorem K.take_at {l : List UInt8} {i : Nat} (hi : i < l.length) : l.take (i + 1) = l.take i ++ [l.getD i 0] := by
  rw [List.take_succ_eq_append_getElem hi]; simp [hi]
end Go.Proofs.YtnehocjmgnhhhaaDoor
