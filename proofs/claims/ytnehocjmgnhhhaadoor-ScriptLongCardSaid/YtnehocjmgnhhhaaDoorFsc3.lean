import Derived.Test.YtnehocjmgnhhhaaDoorFsc2
/- Scripts: Concat, a call, a line. -/
namespace Go.Proofs.YtnehocjmgnhhhaaDoor
open Go.RowKit
set_option linter.unusedVariables false
attribute [local irreducible] K.KW K.RW K.DW K.OW K.QR K.KC
structure ActM where
  k : Int
  th : Int
  ln : Int
  ok : Int
  key : Int
  val : Int
deriving DecidableEq
def act0 : ActM := ⟨0, 0, 0, 0, 0, 0⟩
def cAct (a : ActM) : List Value := [.int .i64 a.k, .int .i64 a.th, .int .i64 a.ln, .int .i64 a.ok, .int .u32 a.key, .int .u32 a.val]
def actA (a : ActM) : Value := .agg (cAct a).toArray
def bndK (k : Int) : List (Int × Int) := if k = 1 then [(0, 63), (0, 4294967295)] else if k = 2 then [(0, 63)] else if k = 6 then [(0, 63), (0, 4294967295), (0, 4294967295)] else [(0, 63), (0, 4294967295)]
def kindW (W : List (List UInt8)) : Int := K.ixS (W.getD 1 []) opNm.tail + 1
def restW (W : List (List UInt8)) : List (List UInt8) := W.take 1 ++ W.drop 2
/-- the call that words are -/
def callA1 (W : List (List UInt8)) : ActM := ⟨1, (numsV (restW W) (bndK (kindW W))).getD 0 0, 0, kindW W, if ¬ kindW W = 1 ∧ ¬ kindW W = 2 then u32R ((numsV (restW W) (bndK (kindW W))).getD 1 0) else 0, if kindW W = 1 ∨ kindW W = 6 then u32R ((numsV (restW W) (bndK (kindW W))).getD ((numsV (restW W) (bndK (kindW W))).length - 1) 0) else 0⟩
def callW (W : List (List UInt8)) : ActM × Int :=
  if W.length < 2 then (act0, 3) else if kindW W = 0 then (act0, 3) else if numsE (restW W) (bndK (kindW W)) = 0 then (callA1 W, 0) else (act0, numsE (restW W) (bndK (kindW W)))
theorem callW_len {W : List (List UInt8)} (h : W.length < 2) : callW W = (act0, 3) := by unfold callW; rw [if_pos h]
theorem callW_kind {W : List (List UInt8)} (h : kindW W = 0) : callW W = (act0, 3) := by unfold callW; split <;> simp [h]
theorem callW_bad {W : List (List UInt8)} (h : ¬ W.length < 2) (h1 : ¬ kindW W = 0) (h2 : ¬ numsE (restW W) (bndK (kindW W)) = 0) : callW W = (act0, numsE (restW W) (bndK (kindW W))) := by unfold callW; rw [if_neg h, if_neg h1, if_neg h2]
theorem callW_ok {W : List (List UInt8)} (h : ¬ W.length < 2) (h1 : ¬ kindW W = 0) (h2 : numsE (restW W) (bndK (kindW W)) = 0) : callW W = (callA1 W, 0) := by unfold callW; rw [if_neg h, if_neg h1, if_pos h2]
theorem bnd1 {k : Int} (h : k = 1) : bndK k = [(0, 63), (0, 4294967295)] := by unfold bndK; rw [if_pos h]
theorem bnd2 {k : Int} (h : k = 2) : bndK k = [(0, 63)] := by unfold bndK; rw [if_neg (by omega), if_pos h]
theorem bnd6 {k : Int} (h : k = 6) : bndK k = [(0, 63), (0, 4294967295), (0, 4294967295)] := by unfold bndK; rw [if_neg (by omega), if_neg (by omega), if_pos h]
theorem bndo {k : Int} (h : ¬ k = 1 ∧ ¬ k = 2 ∧ ¬ k = 6) : bndK k = [(0, 63), (0, 4294967295)] := by unfold bndK; rw [if_neg h.1, if_neg h.2.1, if_neg h.2.2]
def callN : List UInt8 := [99, 97, 108, 108]
def stepN : List UInt8 := [115, 116, 101, 112]
def evictN : List UInt8 := [101, 118, 105, 99, 116]
def reviveN : List UInt8 := [114, 101, 118, 105, 118, 101]
def crashN : List UInt8 := [99, 114, 97, 115, 104]
/-- the act that a line is, how often, and the error -/
def actW (W : List (List UInt8)) : ActM × Int × Int :=
  if W.getD 0 [] = [99, 97, 108, 108] then ((callW (W.drop 1)).1, 1, (callW (W.drop 1)).2)
  else if W.getD 0 [] = [115, 116, 101, 112] then (if numsE (W.drop 1) [(0, 63), (1, 10000)] = 0 then (⟨2, (numsV (W.drop 1) [(0, 63), (1, 10000)]).getD 0 0, 0, 0, 0, 0⟩, (numsV (W.drop 1) [(0, 63), (1, 10000)]).getD 1 0, 0) else (act0, 0, numsE (W.drop 1) [(0, 63), (1, 10000)]))
  else if W.getD 0 [] = [101, 118, 105, 99, 116] then (if numsE (W.drop 1) [(0, 262143)] = 0 then (⟨3, 0, (numsV (W.drop 1) [(0, 262143)]).getD 0 0, 0, 0, 0⟩, 1, 0) else (act0, 0, numsE (W.drop 1) [(0, 262143)]))
  else if W.getD 0 [] = [114, 101, 118, 105, 118, 101] then (if numsE (W.drop 1) [(1, 10000)] = 0 then (⟨5, 0, 0, 0, 0, 0⟩, (numsV (W.drop 1) [(1, 10000)]).getD 0 0, 0) else (act0, 0, numsE (W.drop 1) [(1, 10000)]))
  else if W.getD 0 [] = [99, 114, 97, 115, 104] ∧ W.length = 1 then (⟨4, 0, 0, 0, 0, 0⟩, 1, 0)
  else (act0, 0, 3)
theorem numsE_lens {W : List (List UInt8)} {B : List (Int × Int)} (h : numsE W B = 0) : W.length = B.length := by
  unfold numsE at h
  split at h
  · assumption
  · simp at h
theorem wl_getD {W : List (List UInt8)} {n : Nat} (h : ∀ x ∈ W, x.length ≤ n) (q : Nat) : (W.getD q []).length ≤ n := by
  rw [List.getD_eq_getElem?_getD]
  rcases Nat.lt_or_ge q W.length with hq | hq
  · rw [List.getElem?_eq_getElem hq]; exact h _ (List.getElem_mem hq)
  · rw [List.getElem?_eq_none hq]; simp
theorem restW_mem {W : List (List UInt8)} {x : List UInt8} (h : x ∈ restW W) : x ∈ W := by
  unfold restW at h
  rcases List.mem_append.1 h with h | h
  · exact List.mem_of_mem_take h
  · exact List.mem_of_mem_drop h
theorem restW_len (W : List (List UInt8)) : (restW W).length ≤ W.length + 1 := by unfold restW; rw [List.length_append, List.length_take, List.length_drop]; omega
theorem K.OwnG.take0 {l : K.Cs} {e : TypeId} {size n cap : Nat} {a : Option Addr} {xs : List Value} (h : K.OwnG l e size a n cap xs) : K.OwnG l e size a 0 cap [] := by
  refine ⟨by simp, ?_⟩
  rcases h.2 with ⟨h1, h2, _, h4⟩ | ⟨g, cur, h1, h2, h3, h4, h5, h6⟩
  · exact .inl ⟨h1, h2, rfl, h4⟩
  · exact .inr ⟨g, cur, h1, h2, Nat.zero_le _, h4, h5, by first | simp | (refine ⟨by simp, ?_⟩; simp)⟩
set_option maxHeartbeats 1000000 in
set_option maxRecDepth 100000 in
theorem grow_ok (w0 : World) (n : Nat) (h0 : 0 < n) (hn : n ≤ 3000000) :
    K.GC Tryd.prog w0 104 #[.slice none 0 0, .int .i64 ((n : Nat) : Int)] [] (fun v post => ∃ a g k, post = [g] ∧ v = .slice a 0 k ∧ K.OwnG g 9 1 a 0 k []) := by
  refine K.GC.mk (n := 27) Tryd.func104 rfl rfl [.slice none 0 0, .int .i64 ((n : Nat) : Int)] rfl rfl ?_
  intro fr w hS
  replace hS : K.Sat w0 [fr] w := hS
  refine K.KW.seq ?_
  -- 0 :422
  refine K.KW.region ?_
  refine K.RW.qs [.slice none 0 0] (by kernel_rfl) ?_
  refine K.RW.nil ?_
  refine K.thn_normal ?_
  refine K.KW.seq ?_
  refine K.KW.seq ?_
  -- 1 :423
  refine K.KW.region ?_
  refine K.RW.qs [.int .i64 ((n : Nat) : Int)] (by kernel_rfl) ?_
  refine K.RW.q rfl rfl (K.QR.nice (v := .bool (decide ((((n : Nat) : Int) : Int) < (0 : Int)))) (by kernel_rfl) (congrArg Value.bool (decide_eq_false (by omega)))) ?_
  refine K.RW.nil ?_
  refine K.thn_normal ?_
  refine K.KW.ifF rfl ?_
  refine K.KW.skip ?_
  refine K.thn_normal ?_
  refine K.KW.seq ?_
  refine K.KW.seq ?_
  -- 3 :426
  refine K.KW.region ?_
  refine K.RW.qs [.int .i64 ((n : Nat) : Int), .slice none 0 0] (by kernel_rfl) ?_
  refine K.RW.q rfl rfl (K.QR.cap (P := Tryd.prog) rfl rfl Tryd.underlying68) ?_
  refine K.RW.qs [.slice none 0 0] (by kernel_rfl) ?_
  refine K.RW.q rfl rfl (K.QR.len (P := Tryd.prog) rfl rfl Tryd.underlying68) ?_
  refine K.RW.qs [.int .i64 0] (by kernel_rfl) ?_
  refine K.RW.q rfl rfl (K.QR.turn (v := .int .i64 ((n : Nat) : Int)) (K.QR.n64 ((((n : Nat) : Int) : Int) - (0 : Int)) ((n : Nat) : Int) (by kernel_rfl) (by omega)) (congrArg (Value.int .i64) (show (((n : Nat) : Int) : Int) = (((n : Nat) : Int) : Int) from by omega))) ?_
  refine K.RW.qs [.int .i64 ((n : Nat) : Int)] (by kernel_rfl) ?_
  refine K.RW.nil ?_
  refine K.thn_normal ?_
  refine K.KW.seq ?_
  -- 4 :426
  refine K.KW.region ?_
  refine K.RW.qs [.int .i64 ((n : Nat) : Int)] (by kernel_rfl) ?_
  refine K.RW.q rfl rfl (K.QR.nice (v := .bool (decide ((((n : Nat) : Int) : Int) > (0 : Int)))) (by kernel_rfl) (congrArg Value.bool (decide_eq_true (by omega)))) ?_
  refine K.RW.nil ?_
  refine K.thn_normal ?_
  refine K.KW.ifT rfl ?_
  -- 5 :428
  refine K.KW.region ?_
  refine K.RW.qs [.slice none 0 0, .slice none 0 0] (by kernel_rfl) ?_
  refine K.RW.q rfl rfl (K.QR.cap (P := Tryd.prog) rfl rfl Tryd.underlying68) ?_
  refine K.RW.q rfl rfl (K.QR.slHi (size := 1) 0 rfl rfl rfl Tryd.underlying68 (by kernel_rfl) (by omega)) ?_
  refine K.RW.qs [.int .i64 ((n : Nat) : Int)] (by kernel_rfl) ?_
  refine K.RW.l rfl (K.OW.gzeros (P := Tryd.prog) (c := K.cStr) (z := .string (K.sb [])) (size := 1) (bytes := 16) (([] : List UInt8) : List UInt8) hS ?_ Tryd.underlying68 Tryd.underlying3 (by kernel_rfl) rfl rfl (by decide) (by omega) (by unfold maxLen; omega) (by omega))
  clear hS; intro a_1 cap_2 w l_3 o_4 hS
  refine K.RW.qs [.slice none 0 0] (by kernel_rfl) ?_
  refine K.RW.q rfl rfl (K.QR.len (P := Tryd.prog) rfl rfl Tryd.underlying68) ?_
  have o_5 := K.OwnG.take0 o_4
  refine K.RW.q rfl rfl (K.QR.slHi (size := 1) 0 rfl rfl rfl Tryd.underlying68 (by kernel_rfl) (by omega)) ?_
  refine K.RW.qs [.slice a_1 0 cap_2] (by kernel_rfl) ?_
  refine K.RW.nil ?_
  refine K.thn_normal ?_
  refine K.KW.seq ?_
  -- 6 :430
  refine K.KW.region ?_
  refine K.RW.qs [.slice a_1 0 cap_2, .slice a_1 0 cap_2] (by kernel_rfl) ?_
  refine K.RW.nil ?_
  refine K.thn_normal ?_
  refine K.KW.ret ?_
  refine ⟨.inr rfl, rfl, (.slice a_1 0 cap_2), K.res1 rfl rfl, [l_3], ?_, hS.pick [0, 1]⟩
  exact ⟨_, _, _, rfl, rfl, o_5⟩
set_option maxHeartbeats 1000000 in
set_option maxRecDepth 100000 in
theorem concat_ok (w0 : World) (b : Nat) (gs gw : K.Cs) (a1 a2 : Option Addr) (c1 c2 : Nat) (X Y : List (List UInt8)) (h0 : 0 < X.length) (hX : X.length ≤ 1000000) (hY : Y.length ≤ 1000000) (hgs : gs = [K.pt b 68 [.slice a1 X.length c1, .slice a2 Y.length c2]]) (hx : ∀ w, K.Sat w0 [gw] w → K.RowE w a1 X.length 1 (fun i => K.cStr (X.getD i []))) (hy : ∀ w, K.Sat w0 [gw] w → K.RowE w a2 Y.length 1 (fun i => K.cStr (Y.getD i []))) :
    K.GC Tryd.prog w0 97 #[.slice (some ⟨b, 0, none⟩) 2 2] [gs, gw] (fun v post => ∃ a g k, post = [gs, gw, g] ∧ v = .slice a (X ++ Y).length k ∧ K.OwnG g 9 1 a (X ++ Y).length k ((X ++ Y).flatMap K.cStr)) := by
  refine K.GC.mk (n := 36) Tryd.func97 rfl rfl [.slice (some ⟨b, 0, none⟩) 2 2] rfl rfl ?_
  intro fr w hS
  replace hS : K.Sat w0 [gs, gw, fr] w := hS
  refine K.KW.seq ?_
  -- 0 :491
  refine K.KW.region ?_
  refine K.RW.qs [.slice none 0 0] (by kernel_rfl) ?_
  refine K.RW.nil ?_
  refine K.thn_normal ?_
  refine K.KW.seq ?_
  -- 1 :492
  refine K.KW.region ?_
  refine K.RW.qs [.int .i64 0] (by kernel_rfl) ?_
  refine K.RW.nil ?_
  refine K.thn_normal ?_
  refine K.KW.seq ?_
  refine K.KW.seq ?_
  -- 2 :493
  refine K.KW.region ?_
  refine K.RW.qs [.slice (some ⟨b, 0, none⟩) 2 2] (by kernel_rfl) ?_
  refine K.RW.q rfl rfl (K.QR.len (P := Tryd.prog) rfl rfl Tryd.underlying150) ?_
  refine K.RW.qs [.int .i64 0] (by kernel_rfl) ?_
  refine K.RW.nil ?_
  refine K.thn_normal ?_
  refine K.KW.block ?_
  refine K.KW.unr 2 ?_
  refine K.Unr.succ ?_
  refine K.KW.seq ?_
  -- 3 :493
  refine K.KW.region ?_
  refine K.RW.qs [.bool true] (by kernel_rfl) ?_
  refine K.RW.nil ?_
  refine K.thn_normal ?_
  refine K.KW.seq ?_
  refine K.KW.ifT rfl ?_
  refine K.KW.skip ?_
  refine K.thn_normal ?_
  refine K.KW.seq ?_
  refine K.KW.block ?_
  refine K.KW.seq ?_
  -- 4 :493
  refine K.KW.region ?_
  refine K.RW.q rfl rfl (K.QR.ix 0 1 rfl rfl rfl Tryd.underlying150 (by kernel_rfl) (by omega) (by first | (simp; done) | omega | (simp; omega))) ?_
  refine K.RW.q rfl rfl (K.QR.ld1 (v := .slice a1 X.length c1) rfl rfl (by kernel_rfl) ((hS.blk 0 rfl hgs).cell rfl)) ?_
  refine K.RW.qs [.slice a1 X.length c1] (by kernel_rfl) ?_
  refine K.RW.nil ?_
  refine K.thn_normal ?_
  refine K.KW.seq ?_
  -- 5 :494
  refine K.KW.region ?_
  refine K.RW.qs [.int .i64 0, .slice a1 X.length c1] (by kernel_rfl) ?_
  refine K.RW.q rfl rfl (K.QR.len (P := Tryd.prog) rfl rfl Tryd.underlying68) ?_
  refine K.RW.q rfl rfl (K.QR.n64 ((0 : Int) + (((X.length : Nat) : Int) : Int)) ((X.length : Nat) : Int) (by kernel_rfl) (by omega)) ?_
  refine K.RW.qs [.int .i64 ((X.length : Nat) : Int)] (by kernel_rfl) ?_
  refine K.RW.nil ?_
  refine K.thn_normal ?_
  refine K.KW.seq ?_
  -- 6 :495
  refine K.KW.region ?_
  refine K.RW.qs [.int .i64 ((X.length : Nat) : Int)] (by kernel_rfl) ?_
  refine K.RW.q rfl rfl (K.QR.nice (v := .bool (decide ((((X.length : Nat) : Int) : Int) < (0 : Int)))) (by kernel_rfl) (congrArg Value.bool (decide_eq_false (by omega)))) ?_
  refine K.RW.nil ?_
  refine K.thn_normal ?_
  refine K.KW.ifF rfl ?_
  refine K.KW.skip ?_
  refine K.blk_normal ?_
  refine K.thn_normal ?_
  -- 8 :493
  refine K.KW.region ?_
  refine K.RW.qs [.int .i64 1, .int .i64 1] (by kernel_rfl) ?_
  refine K.RW.nil ?_
  refine K.thn_normal ?_
  refine K.Unr.succ ?_
  refine K.KW.seq ?_
  -- 3 :493
  refine K.KW.region ?_
  refine K.RW.qs [.bool true] (by kernel_rfl) ?_
  refine K.RW.nil ?_
  refine K.thn_normal ?_
  refine K.KW.seq ?_
  refine K.KW.ifT rfl ?_
  refine K.KW.skip ?_
  refine K.thn_normal ?_
  refine K.KW.seq ?_
  refine K.KW.block ?_
  refine K.KW.seq ?_
  -- 4 :493
  refine K.KW.region ?_
  refine K.RW.q rfl rfl (K.QR.ix 1 1 rfl rfl rfl Tryd.underlying150 (by kernel_rfl) (by omega) (by first | (simp; done) | omega | (simp; omega))) ?_
  refine K.RW.q rfl rfl (K.QR.ld1 (v := .slice a2 Y.length c2) rfl rfl (by kernel_rfl) ((hS.blk 0 rfl hgs).cell rfl)) ?_
  refine K.RW.qs [.slice a2 Y.length c2] (by kernel_rfl) ?_
  refine K.RW.nil ?_
  refine K.thn_normal ?_
  refine K.KW.seq ?_
  -- 5 :494
  refine K.KW.region ?_
  refine K.RW.qs [.int .i64 ((X.length : Nat) : Int), .slice a2 Y.length c2] (by kernel_rfl) ?_
  refine K.RW.q rfl rfl (K.QR.len (P := Tryd.prog) rfl rfl Tryd.underlying68) ?_
  refine K.RW.q rfl rfl (K.QR.n64 ((((X.length : Nat) : Int) : Int) + (((Y.length : Nat) : Int) : Int)) ((X.length + Y.length : Nat) : Int) (by kernel_rfl) (by omega)) ?_
  refine K.RW.qs [.int .i64 ((X.length + Y.length : Nat) : Int)] (by kernel_rfl) ?_
  refine K.RW.nil ?_
  refine K.thn_normal ?_
  refine K.KW.seq ?_
  -- 6 :495
  refine K.KW.region ?_
  refine K.RW.qs [.int .i64 ((X.length + Y.length : Nat) : Int)] (by kernel_rfl) ?_
  refine K.RW.q rfl rfl (K.QR.nice (v := .bool (decide ((((X.length + Y.length : Nat) : Int) : Int) < (0 : Int)))) (by kernel_rfl) (congrArg Value.bool (decide_eq_false (by omega)))) ?_
  refine K.RW.nil ?_
  refine K.thn_normal ?_
  refine K.KW.ifF rfl ?_
  refine K.KW.skip ?_
  refine K.blk_normal ?_
  refine K.thn_normal ?_
  -- 8 :493
  refine K.KW.region ?_
  refine K.RW.qs [.int .i64 2, .int .i64 2] (by kernel_rfl) ?_
  refine K.RW.nil ?_
  refine K.thn_normal ?_
  refine K.Unr.zero ?_
  refine K.KW.seq ?_
  -- 3 :493
  refine K.KW.region ?_
  refine K.RW.qs [.bool false] (by kernel_rfl) ?_
  refine K.RW.nil ?_
  refine K.thn_normal ?_
  refine K.KW.seq ?_
  refine K.KW.ifF rfl ?_
  refine K.KW.exit ?_
  refine K.thn_exit ?_
  refine K.thn_exit ?_
  refine K.blk_hit ?_
  refine K.thn_normal ?_
  refine K.KW.seq ?_
  -- 9 :502
  refine K.KW.region ?_
  refine K.RW.qs [.int .i64 ((X.length + Y.length : Nat) : Int)] (by kernel_rfl) ?_
  refine K.RW.l rfl (K.OW.gcall hS [] [0, 1, 2] [.slice none 0 0, .int .i64 ((X.length + Y.length : Nat) : Int)] (grow_ok _ (X.length + Y.length) (by omega) (by omega)) ?_)
  clear hS; rintro _ _ w ⟨a_1, g_2, k_3, rfl, rfl, o_4⟩ hS
  replace hS : K.Sat w0 [g_2, gs, gw, fr] w := hS
  refine K.RW.qs [.slice a_1 0 k_3] (by kernel_rfl) ?_
  refine K.RW.nil ?_
  refine K.thn_normal ?_
  refine K.KW.seq ?_
  refine K.KW.seq ?_
  -- 10 :503
  refine K.KW.region ?_
  refine K.RW.qs [.slice (some ⟨b, 0, none⟩) 2 2] (by kernel_rfl) ?_
  refine K.RW.q rfl rfl (K.QR.len (P := Tryd.prog) rfl rfl Tryd.underlying150) ?_
  refine K.RW.qs [.int .i64 0] (by kernel_rfl) ?_
  refine K.RW.nil ?_
  refine K.thn_normal ?_
  refine K.KW.block ?_
  refine K.KW.unr 2 ?_
  refine K.Unr.succ ?_
  refine K.KW.seq ?_
  -- 11 :503
  refine K.KW.region ?_
  refine K.RW.qs [.bool true] (by kernel_rfl) ?_
  refine K.RW.nil ?_
  refine K.thn_normal ?_
  refine K.KW.seq ?_
  refine K.KW.ifT rfl ?_
  refine K.KW.skip ?_
  refine K.thn_normal ?_
  refine K.KW.seq ?_
  refine K.KW.block ?_
  refine K.KW.seq ?_
  -- 12 :503
  refine K.KW.region ?_
  refine K.RW.q rfl rfl (K.QR.ix 0 1 rfl rfl rfl Tryd.underlying150 (by kernel_rfl) (by omega) (by first | (simp; done) | omega | (simp; omega))) ?_
  refine K.RW.q rfl rfl (K.QR.ld1 (v := .slice a1 X.length c1) rfl rfl (by kernel_rfl) ((hS.blk 1 rfl hgs).cell rfl)) ?_
  refine K.RW.qs [.slice a1 X.length c1] (by kernel_rfl) ?_
  refine K.RW.nil ?_
  refine K.thn_normal ?_
  -- 13 :504
  refine K.KW.region ?_
  refine K.RW.qs [.slice a_1 0 k_3, .slice a1 X.length c1] (by kernel_rfl) ?_
  refine K.RW.l rfl (K.OW.gappR (P := Tryd.prog) (c := K.cStr) (L := []) (L2 := X) (z := .string (K.sb [])) (size := 1) (bytes := 16) 0 [] hS o_4 ?_ rfl (hx _ (hS.pick [2])) (fun _ => rfl) (fun _ => K.one_cells rfl) Tryd.underlying68 (by kernel_rfl) rfl (by decide) (by unfold maxLen; omega) (by omega))
  clear hS; intro a_5 cap_6 w l_7 o_8 hS
  have ln_9 : (([] ++ X)).length = 0 + X.length := by simp
  replace hS : K.Sat w0 [l_7, gs, gw, fr] w := hS
  refine K.RW.qs [.slice a_5 (0 + X.length) cap_6] (by kernel_rfl) ?_
  refine K.RW.nil ?_
  refine K.blk_normal ?_
  refine K.thn_normal ?_
  -- 14 :503
  refine K.KW.region ?_
  refine K.RW.qs [.int .i64 1, .int .i64 1] (by kernel_rfl) ?_
  refine K.RW.nil ?_
  refine K.thn_normal ?_
  refine K.Unr.succ ?_
  refine K.KW.seq ?_
  -- 11 :503
  refine K.KW.region ?_
  refine K.RW.qs [.bool true] (by kernel_rfl) ?_
  refine K.RW.nil ?_
  refine K.thn_normal ?_
  refine K.KW.seq ?_
  refine K.KW.ifT rfl ?_
  refine K.KW.skip ?_
  refine K.thn_normal ?_
  refine K.KW.seq ?_
  refine K.KW.block ?_
  refine K.KW.seq ?_
  -- 12 :503
  refine K.KW.region ?_
  refine K.RW.q rfl rfl (K.QR.ix 1 1 rfl rfl rfl Tryd.underlying150 (by kernel_rfl) (by omega) (by first | (simp; done) | omega | (simp; omega))) ?_
  refine K.RW.q rfl rfl (K.QR.ld1 (v := .slice a2 Y.length c2) rfl rfl (by kernel_rfl) ((hS.blk 1 rfl hgs).cell rfl)) ?_
  refine K.RW.qs [.slice a2 Y.length c2] (by kernel_rfl) ?_
  refine K.RW.nil ?_
  refine K.thn_normal ?_
  -- 13 :504
  refine K.KW.region ?_
  refine K.RW.qs [.slice a_5 (0 + X.length) cap_6, .slice a2 Y.length c2] (by kernel_rfl) ?_
  refine K.RW.l rfl (K.OW.gappR (P := Tryd.prog) (c := K.cStr) (L := ([] ++ X)) (L2 := Y) (z := .string (K.sb [])) (size := 1) (bytes := 16) 0 [] hS o_8 ?_ rfl (hy _ (hS.pick [2])) (fun _ => rfl) (fun _ => K.one_cells rfl) Tryd.underlying68 (by kernel_rfl) rfl (by decide) (by unfold maxLen; omega) (by omega))
  clear hS; intro a_10 cap_11 w l_12 o_13 hS
  have ln_14 : ((([] ++ X) ++ Y)).length = 0 + X.length + Y.length := by (rw [List.length_append, ln_9]) <;> rfl
  replace hS : K.Sat w0 [l_12, gs, gw, fr] w := hS
  refine K.RW.qs [.slice a_10 (0 + X.length + Y.length) cap_11] (by kernel_rfl) ?_
  refine K.RW.nil ?_
  refine K.blk_normal ?_
  refine K.thn_normal ?_
  -- 14 :503
  refine K.KW.region ?_
  refine K.RW.qs [.int .i64 2, .int .i64 2] (by kernel_rfl) ?_
  refine K.RW.nil ?_
  refine K.thn_normal ?_
  refine K.Unr.zero ?_
  refine K.KW.seq ?_
  -- 11 :503
  refine K.KW.region ?_
  refine K.RW.qs [.bool false] (by kernel_rfl) ?_
  refine K.RW.nil ?_
  refine K.thn_normal ?_
  refine K.KW.seq ?_
  refine K.KW.ifF rfl ?_
  refine K.KW.exit ?_
  refine K.thn_exit ?_
  refine K.thn_exit ?_
  refine K.blk_hit ?_
  refine K.thn_normal ?_
  refine K.KW.seq ?_
  -- 15 :506
  refine K.KW.region ?_
  refine K.RW.qs [.slice a_10 (0 + X.length + Y.length) cap_11, .slice a_10 (0 + X.length + Y.length) cap_11] (by kernel_rfl) ?_
  refine K.RW.nil ?_
  refine K.thn_normal ?_
  refine K.KW.ret ?_
  refine ⟨.inr rfl, rfl, (.slice a_10 (0 + X.length + Y.length) cap_11), K.res1 rfl rfl, [gs, gw, l_12], ?_, hS.pick [1, 2, 0, 3]⟩
  have hl : (X ++ Y).length = X.length + Y.length := List.length_append
  exact ⟨a_10, l_12, cap_11, rfl, by rw [hl]; first | rfl | simp, by rw [hl]; simpa using o_13⟩
set_option maxHeartbeats 8000000 in
set_option maxRecDepth 100000 in
theorem scall_ok (w0 : World) (a : Option Addr) (cap : Nat) (W : List (List UInt8)) (hm : W.length ≤ 900000) (hc : W.length ≤ cap) (hW : ∀ x ∈ W, x.length ≤ 1000000) (gw : K.Cs) (hx : ∀ w, K.Sat w0 [gw] w → K.RowE w a W.length 1 (fun i => K.cStr (W.getD i []))) :
    K.GC Tryd.prog w0 89 #[.slice a W.length cap] [gw] (fun v post => post = [gw] ∧ v = .tuple #[actA (callW W).1, .int .i64 (callW W).2]) := by
  refine K.GC.mk (n := 86) Tryd.func89 rfl rfl [.slice a W.length cap] rfl rfl ?_
  intro fr w hS
  replace hS : K.Sat w0 [gw, fr] w := hS
  refine K.KW.seq ?_
  -- 0 :96
  refine K.KW.region ?_
  refine K.RW.l rfl (K.OW.gnew 57 [.int .i64 0, .int .i64 0, .int .i64 0, .int .i64 0, .int .u32 0, .int .u32 0] hS ?_)
  clear hS; intro w r_1 g_2 hg_3 hS
  refine K.RW.qs [.int .i64 0] (by kernel_rfl) ?_
  refine K.RW.nil ?_
  refine K.thn_normal ?_
  refine K.KW.seq ?_
  refine K.KW.seq ?_
  -- 1 :97
  refine K.KW.region ?_
  refine K.RW.qs [.slice a W.length cap] (by kernel_rfl) ?_
  refine K.RW.q rfl rfl (K.QR.len (P := Tryd.prog) rfl rfl Tryd.underlying68) ?_
  by_cases h_4 : (((W.length : Nat) : Int) : Int) < (2 : Int)
  ·  -- yes
    refine K.RW.q rfl rfl (K.QR.nice (v := .bool (decide ((((W.length : Nat) : Int) : Int) < (2 : Int)))) (by kernel_rfl) (congrArg Value.bool (decide_eq_true h_4))) ?_
    refine K.RW.nil ?_
    refine K.thn_normal ?_
    refine K.KW.ifT rfl ?_
    refine K.KW.seq ?_
    -- 2 :98
    refine K.KW.region ?_
    refine K.RW.q rfl rfl (K.QR.bd [] [.int .i64 0, .int .i64 0, .int .i64 0, .int .i64 0, .int .u32 0, .int .u32 0] rfl rfl (by kernel_rfl)) ?_
    refine K.RW.l rfl (K.OW.gst 0 [.int .i64 0, .int .i64 0, .int .i64 0, .int .i64 0, .int .u32 0, .int .u32 0] [.int .i64 0, .int .i64 0, .int .i64 0, .int .i64 0, .int .u32 0, .int .u32 0] hS hg_3 ?_)
    clear hS; intro w g_5 hg_6 hS
    replace hS : K.Sat w0 [g_5, gw, fr] w := hS
    refine K.RW.qs [.int .i64 3] (by kernel_rfl) ?_
    refine K.RW.nil ?_
    refine K.thn_normal ?_
    refine K.KW.ret ?_
    refine K.thn_ret ?_
    refine ⟨.inr rfl, rfl, (.tuple #[.agg #[.int .i64 0, .int .i64 0, .int .i64 0, .int .i64 0, .int .u32 0, .int .u32 0], .int .i64 3]), K.resAt (rs := [.cell 2 57, .tmp 3]) [.agg #[.int .i64 0, .int .i64 0, .int .i64 0, .int .i64 0, .int .u32 0, .int .u32 0], .int .i64 3] rfl ⟨⟨_, rfl, K.lvN [.int .i64 0, .int .i64 0, .int .i64 0, .int .i64 0, .int .u32 0, .int .u32 0] (by kernel_rfl) (by kernel_rfl) (K.cells (K.cl ((hS.blk 0 rfl hg_6).cell rfl) (K.cl ((hS.blk 0 rfl hg_6).cell rfl) (K.cl ((hS.blk 0 rfl hg_6).cell rfl) (K.cl ((hS.blk 0 rfl hg_6).cell rfl) (K.cl ((hS.blk 0 rfl hg_6).cell rfl) (K.cl ((hS.blk 0 rfl hg_6).cell rfl) K.cl0)))))))⟩, rfl, trivial⟩, [gw], ?_, hS.pick [1, 2]⟩
    first | exact ⟨rfl, by rw [callW_len (by omega)]; rfl⟩ | exact ⟨rfl, by rw [callW_kind (by unfold kindW; omega)]; rfl⟩
  ·  -- no
    refine K.RW.q rfl rfl (K.QR.nice (v := .bool (decide ((((W.length : Nat) : Int) : Int) < (2 : Int)))) (by kernel_rfl) (congrArg Value.bool (decide_eq_false h_4))) ?_
    refine K.RW.nil ?_
    refine K.thn_normal ?_
    refine K.KW.ifF rfl ?_
    refine K.KW.skip ?_
    refine K.thn_normal ?_
    refine K.KW.seq ?_
    -- 3 :100
    have hxl := K.ixS_ge (W.getD 1 []) opNm.tail
    have hxu := K.ixS_lt (W.getD 1 []) opNm.tail
    have hx8 : opNm.tail.length = 8 := rfl
    obtain ⟨b_7, of_8, rfl, _⟩ := (hx _ (hS.pick [1])).at_ (by omega)
    refine K.KW.gdrawn [1] hS (by kernel_rfl) ?_
    clear hS; intro w hS
    refine K.DW.q 1 (by kernel_rfl) rfl rfl (by kernel_rfl) rfl (fun w hS => K.QR.k (v := .slice (some ⟨b_7, of_8, none⟩) W.length cap) (by kernel_rfl)) (hS.pick [1]) ?_
    refine K.DW.q 2 (by kernel_rfl) rfl rfl (by kernel_rfl) rfl (fun w hS => K.QR.ix (of_8 + 1 * 1) 1 rfl rfl rfl Tryd.underlying68 (by kernel_rfl) (by omega) (by first | (simp; done) | omega | (simp; omega))) (hS.pick [1]) ?_
    refine K.DW.q 3 (by kernel_rfl) rfl rfl (by kernel_rfl) rfl (fun w hS => K.QR.ld1 (v := .string (K.sb (W.getD 1 []))) rfl rfl (by kernel_rfl) ((hx _ (hS.pick [0])).ld 1 (by omega) 0 _ rfl)) (hS.pick [1]) ?_
    refine K.DW.l 0 rfl (by kernel_rfl) rfl (K.OW.gcall hS [] [0, 1, 2] [] (snames_ok _) ?_)
    clear hS; rintro _ _ w ⟨r_9, g_10, rfl, rfl, h_11⟩ hS
    have h_11o : K.OwnG g_10 9 1 (some ⟨r_9, 0, none⟩) 8 8 (opNm.tail.flatMap K.cStr) := K.OwnG.ofPt h_11 8 (by unfold maxLen; omega) rfl
    replace hS : K.Sat w0 [g_10, g_2, gw, fr] w := hS
    refine ⟨.inl (hS.pick [2]), ?_⟩
    refine K.DW.l 4 rfl (by kernel_rfl) rfl (K.OW.gcall hS [0] [1, 2, 3] [.slice (some ⟨r_9, 0, none⟩) 8 8, .string (K.sb (W.getD 1 []))] (ixs_ok _ _ _ opNm.tail (W.getD 1 []) (by rw [hx8]; omega) _ (fun w h => K.RowE.len (K.Own.rowE [] (h.ownr 0 rfl h_11o) rfl (fun _ => rfl)) rfl)) ?_)
    clear hS; rintro _ _ w ⟨rfl, rfl⟩ hS
    replace hS : K.Sat w0 [g_10, g_2, gw, fr] w := hS
    refine ⟨.inl (hS.pick [2]), ?_⟩
    refine K.DW.l 5 rfl (by kernel_rfl) rfl (K.OW.q rfl (K.QR.n64 (((K.ixS (W.getD 1 []) opNm.tail) : Int) + (1 : Int)) (((K.ixS (W.getD 1 []) opNm.tail) : Int) + (1 : Int)) (by kernel_rfl) (by omega)) ?_)
    refine ⟨.inl (hS.pick [2]), ?_⟩
    refine K.DW.l 6 rfl (by kernel_rfl) rfl (K.OW.q rfl (K.QR.k (v := .int .i64 (((K.ixS (W.getD 1 []) opNm.tail) : Int) + (1 : Int))) (by kernel_rfl)) ?_)
    refine ⟨.inl (hS.pick [2]), ?_⟩
    refine K.DW.done (by kernel_rfl) ?_
    refine K.thn_normal ?_
    refine K.KW.seq ?_
    refine K.KW.seq ?_
    -- 4 :101
    refine K.KW.region ?_
    refine K.RW.qs [.int .i64 (((K.ixS (W.getD 1 []) opNm.tail) : Int) + (1 : Int))] (by kernel_rfl) ?_
    by_cases h_12 : (((K.ixS (W.getD 1 []) opNm.tail) : Int) + (1 : Int) : Int) = (0 : Int)
    ·  -- yes
      refine K.RW.q rfl rfl (K.QR.nice (v := .bool ((((K.ixS (W.getD 1 []) opNm.tail) : Int) + (1 : Int) : Int) == (0 : Int))) (by kernel_rfl) (congrArg Value.bool (beq_iff_eq.2 h_12))) ?_
      refine K.RW.nil ?_
      refine K.thn_normal ?_
      refine K.KW.ifT rfl ?_
      refine K.KW.seq ?_
      -- 5 :102
      refine K.KW.region ?_
      refine K.RW.q rfl rfl (K.QR.bd [] [.int .i64 0, .int .i64 0, .int .i64 0, .int .i64 0, .int .u32 0, .int .u32 0] rfl rfl (by kernel_rfl)) ?_
      refine K.RW.l rfl (K.OW.gst 1 [.int .i64 0, .int .i64 0, .int .i64 0, .int .i64 0, .int .u32 0, .int .u32 0] [.int .i64 0, .int .i64 0, .int .i64 0, .int .i64 0, .int .u32 0, .int .u32 0] hS hg_3 ?_)
      clear hS; intro w g_13 hg_14 hS
      replace hS : K.Sat w0 [g_10, g_13, gw, fr] w := hS
      refine K.RW.qs [.int .i64 3] (by kernel_rfl) ?_
      refine K.RW.nil ?_
      refine K.thn_normal ?_
      refine K.KW.ret ?_
      refine K.thn_ret ?_
      refine ⟨.inr rfl, rfl, (.tuple #[.agg #[.int .i64 0, .int .i64 0, .int .i64 0, .int .i64 0, .int .u32 0, .int .u32 0], .int .i64 3]), K.resAt (rs := [.cell 2 57, .tmp 3]) [.agg #[.int .i64 0, .int .i64 0, .int .i64 0, .int .i64 0, .int .u32 0, .int .u32 0], .int .i64 3] rfl ⟨⟨_, rfl, K.lvN [.int .i64 0, .int .i64 0, .int .i64 0, .int .i64 0, .int .u32 0, .int .u32 0] (by kernel_rfl) (by kernel_rfl) (K.cells (K.cl ((hS.blk 1 rfl hg_14).cell rfl) (K.cl ((hS.blk 1 rfl hg_14).cell rfl) (K.cl ((hS.blk 1 rfl hg_14).cell rfl) (K.cl ((hS.blk 1 rfl hg_14).cell rfl) (K.cl ((hS.blk 1 rfl hg_14).cell rfl) (K.cl ((hS.blk 1 rfl hg_14).cell rfl) K.cl0)))))))⟩, rfl, trivial⟩, [gw], ?_, hS.pick [2, 3]⟩
      first | exact ⟨rfl, by rw [callW_len (by omega)]; rfl⟩ | exact ⟨rfl, by rw [callW_kind (by unfold kindW; omega)]; rfl⟩
    ·  -- no
      refine K.RW.q rfl rfl (K.QR.nice (v := .bool ((((K.ixS (W.getD 1 []) opNm.tail) : Int) + (1 : Int) : Int) == (0 : Int))) (by kernel_rfl) (congrArg Value.bool (beq_eq_false_iff_ne.2 h_12))) ?_
      refine K.RW.nil ?_
      refine K.thn_normal ?_
      refine K.KW.ifF rfl ?_
      refine K.KW.skip ?_
      refine K.thn_normal ?_
      refine K.KW.seq ?_
      -- 6 :104
      refine K.KW.region ?_
      refine K.RW.q rfl rfl (K.QR.bd [(0, .int .i64 0), (1, .int .i64 63)] [.int .i64 0, .int .i64 63] rfl rfl (by kernel_rfl)) ?_
      refine K.RW.l rfl (K.OW.gbs [(0, .agg #[.int .i64 0, .int .i64 63])] [.int .i64 0, .int .i64 63] hS (fun w => K.bs_run (P := Tryd.prog) w 141 136 1 _ _ Tryd.underlying141 (by kernel_rfl)) ?_)
      clear hS; intro w r_15 g_16 hg_17 hS
      refine K.RW.qs [.slice (some ⟨r_15, 0, none⟩) 1 1] (by kernel_rfl) ?_
      refine K.RW.nil ?_
      refine K.thn_normal ?_
      refine K.KW.seq ?_
      -- 7 :105
      refine K.KW.region ?_
      refine K.RW.qs [.int .i64 (((K.ixS (W.getD 1 []) opNm.tail) : Int) + (1 : Int))] (by kernel_rfl) ?_
      refine K.RW.l rfl (K.OW.gcall hS [] [0, 1, 2, 3, 4] [.int .i64 (((K.ixS (W.getD 1 []) opNm.tail) : Int) + (1 : Int))] (fields_ok _ (((K.ixS (W.getD 1 []) opNm.tail) : Int) + (1 : Int))) ?_)
      clear hS; rintro _ _ w ⟨rfl, (⟨h_18, rfl⟩ | ⟨h_19, rfl⟩ | ⟨h_20, rfl⟩ | ⟨h_21, rfl⟩)⟩ hS
      ·
        replace hS : K.Sat w0 [g_16, g_10, g_2, gw, fr] w := hS
        refine K.RW.qs [.tuple #[.bool false, .bool true], .bool false, .bool true, .bool false, .bool true] (by kernel_rfl) ?_
        refine K.RW.nil ?_
        refine K.thn_normal ?_
        refine K.KW.seq ?_
        refine K.KW.seq ?_
        -- 8 :106
        refine K.KW.region ?_
        refine K.RW.qs [.bool false, .bool true] (by kernel_rfl) ?_
        refine K.RW.l rfl (K.OW.gbs [(0, .bool false), (1, .bool true)] [.bool false, .bool true] hS (fun w => K.bs_run (P := Tryd.prog) w 142 4 2 _ _ Tryd.underlying142 (by kernel_rfl)) ?_)
        clear hS; intro w r_22 g_23 hg_24 hS
        refine K.RW.q rfl rfl (K.QR.len (P := Tryd.prog) rfl rfl Tryd.underlying142) ?_
        refine K.RW.qs [.int .i64 0] (by kernel_rfl) ?_
        refine K.RW.nil ?_
        refine K.thn_normal ?_
        refine K.KW.block ?_
        refine K.KW.unr 2 ?_
        refine K.Unr.succ ?_
        refine K.KW.seq ?_
        -- 9 :106
        refine K.KW.region ?_
        refine K.RW.qs [.bool true] (by kernel_rfl) ?_
        refine K.RW.nil ?_
        refine K.thn_normal ?_
        refine K.KW.seq ?_
        refine K.KW.ifT rfl ?_
        refine K.KW.skip ?_
        refine K.thn_normal ?_
        refine K.KW.seq ?_
        refine K.KW.block ?_
        refine K.KW.seq ?_
        -- 10 :106
        refine K.KW.region ?_
        refine K.RW.q rfl rfl (K.QR.ix 0 1 rfl rfl rfl Tryd.underlying142 (by kernel_rfl) (by omega) (by first | (simp; done) | omega | (simp; omega))) ?_
        refine K.RW.q rfl rfl (K.QR.ld1 (v := .bool false) rfl rfl (by kernel_rfl) ((hS.blk 0 rfl hg_24).cell rfl)) ?_
        refine K.RW.qs [.bool false] (by kernel_rfl) ?_
        refine K.RW.nil ?_
        refine K.thn_normal ?_
        refine K.KW.seq ?_
        -- 11 :107
        refine K.KW.region ?_
        refine K.RW.qs [.bool false] (by kernel_rfl) ?_
        refine K.RW.nil ?_
        refine K.thn_normal ?_
        refine K.KW.ifF rfl ?_
        refine K.KW.skip ?_
        refine K.blk_normal ?_
        refine K.thn_normal ?_
        -- 13 :106
        refine K.KW.region ?_
        refine K.RW.qs [.int .i64 1, .int .i64 1] (by kernel_rfl) ?_
        refine K.RW.nil ?_
        refine K.thn_normal ?_
        refine K.Unr.succ ?_
        refine K.KW.seq ?_
        -- 9 :106
        refine K.KW.region ?_
        refine K.RW.qs [.bool true] (by kernel_rfl) ?_
        refine K.RW.nil ?_
        refine K.thn_normal ?_
        refine K.KW.seq ?_
        refine K.KW.ifT rfl ?_
        refine K.KW.skip ?_
        refine K.thn_normal ?_
        refine K.KW.seq ?_
        refine K.KW.block ?_
        refine K.KW.seq ?_
        -- 10 :106
        refine K.KW.region ?_
        refine K.RW.q rfl rfl (K.QR.ix 1 1 rfl rfl rfl Tryd.underlying142 (by kernel_rfl) (by omega) (by first | (simp; done) | omega | (simp; omega))) ?_
        refine K.RW.q rfl rfl (K.QR.ld1 (v := .bool true) rfl rfl (by kernel_rfl) ((hS.blk 0 rfl hg_24).cell rfl)) ?_
        refine K.RW.qs [.bool true] (by kernel_rfl) ?_
        refine K.RW.nil ?_
        refine K.thn_normal ?_
        refine K.KW.seq ?_
        -- 11 :107
        refine K.KW.region ?_
        refine K.RW.qs [.bool true] (by kernel_rfl) ?_
        refine K.RW.nil ?_
        refine K.thn_normal ?_
        refine K.KW.ifT rfl ?_
        -- 12 :108
        refine K.KW.region ?_
        refine K.RW.qs [.slice (some ⟨r_15, 0, none⟩) 1 1] (by kernel_rfl) ?_
        refine K.RW.q rfl rfl (K.QR.bd [(0, .int .i64 0), (1, .int .i64 4294967295)] [.int .i64 0, .int .i64 4294967295] rfl rfl (by kernel_rfl)) ?_
        refine K.RW.l rfl (K.OW.gbs [(0, .agg #[.int .i64 0, .int .i64 4294967295])] [.int .i64 0, .int .i64 4294967295] hS (fun w => K.bs_run (P := Tryd.prog) w 141 136 1 _ _ Tryd.underlying141 (by kernel_rfl)) ?_)
        clear hS; intro w r_25 g_26 hg_27 hS
        have o_28 : K.OwnG g_16 136 2 (some ⟨r_15, 0, none⟩) 1 1 (([((0, 63) : Int × Int)]).flatMap cRg) := K.OwnG.ofPt hg_17 1 (by unfold maxLen; omega) rfl
        refine K.RW.l rfl (K.OW.gapp (P := Tryd.prog) (xs := ([((0, 63) : Int × Int)]).flatMap cRg) (z := .agg #[.int .i64 0, .int .i64 0]) (size := 2) (bytes := 16) 2 [.int .i64 0, .int .i64 4294967295] hS o_28 ?_ (fun j u hj => (by rw [Nat.zero_add]; exact (hS.blk 0 rfl hg_27).cell hj)) (K.one_cells (by rfl)) (by rfl) Tryd.underlying141 (by kernel_rfl) rfl (by decide) (by unfold maxLen; omega) (by omega))
        clear hS; intro a_29 cap_30 w l_31 o_32 hS
        have ln_33 : (([((0, 63) : Int × Int)] ++ [((0, 4294967295) : Int × Int)])).length = 1 + 1 := by rw [List.length_append]; rfl
        have o_32c := K.OwnG.cast (xs' := (([((0, 63) : Int × Int)] ++ [((0, 4294967295) : Int × Int)])).flatMap cRg) o_32 rfl (K.fl_snoc cRg [((0, 63) : Int × Int)] ((0, 4294967295) : Int × Int) rfl)
        replace hS : K.Sat w0 [g_26, g_23, l_31, g_10, g_2, gw, fr] w := hS
        refine K.RW.qs [.slice a_29 (1 + 1) cap_30] (by kernel_rfl) ?_
        refine K.RW.nil ?_
        refine K.blk_normal ?_
        refine K.thn_normal ?_
        -- 13 :106
        refine K.KW.region ?_
        refine K.RW.qs [.int .i64 2, .int .i64 2] (by kernel_rfl) ?_
        refine K.RW.nil ?_
        refine K.thn_normal ?_
        refine K.Unr.zero ?_
        refine K.KW.seq ?_
        -- 9 :106
        refine K.KW.region ?_
        refine K.RW.qs [.bool false] (by kernel_rfl) ?_
        refine K.RW.nil ?_
        refine K.thn_normal ?_
        refine K.KW.seq ?_
        refine K.KW.ifF rfl ?_
        refine K.KW.exit ?_
        refine K.thn_exit ?_
        refine K.thn_exit ?_
        refine K.blk_hit ?_
        refine K.thn_normal ?_
        refine K.KW.seq ?_
        -- 14 :111
        have hrl := restW_len W
        refine K.KW.gdrawn [] hS (by kernel_rfl) ?_
        clear hS; intro w hS
        refine K.DW.q 0 (by kernel_rfl) rfl rfl (by kernel_rfl) rfl (fun w hS => K.QR.k (v := .slice (some ⟨b_7, of_8, none⟩) W.length cap) (by kernel_rfl)) (hS.pick []) ?_
        refine K.DW.q 1 (by kernel_rfl) rfl rfl (by kernel_rfl) rfl (fun w hS => K.QR.slHi (size := 1) 1 rfl rfl rfl Tryd.underlying68 (by kernel_rfl) (by omega)) (hS.pick []) ?_
        refine K.DW.q 2 (by kernel_rfl) rfl rfl (by kernel_rfl) rfl (fun w hS => K.QR.k (v := .slice (some ⟨b_7, of_8, none⟩) W.length cap) (by kernel_rfl)) (hS.pick []) ?_
        obtain ⟨as_36, has_37⟩ : ∃ q, q = K.shift (some ⟨b_7, of_8, none⟩) cap 2 1 := ⟨_, rfl⟩
        have x_34 : ∀ w, K.Sat w0 [gw] w → K.RowE w as_36 (W.drop 2).length 1 (fun i => K.cStr ((W.drop 2).getD i [])) := fun w h => has_37 ▸ K.RowE.drop (c := K.cStr) (d := []) (L := W) (cap := cap) (hx w h) 2 (by first | omega | (simp; done) | (simp; omega)) ((by omega))
        have n_35 : (W.drop 2).length = W.length - 2 := List.length_drop
        refine K.DW.q 3 (by kernel_rfl) rfl rfl (by kernel_rfl) rfl (fun w hS => K.QR.turn (v' := .slice as_36 ((W.drop 2).length) (cap - 2)) (K.QR.slLo (size := 1) (m := W.length) (k := ((W.drop 2).length)) 2 rfl rfl rfl Tryd.underlying68 (by kernel_rfl) (by first | omega | (simp; done) | (simp; omega)) (by first | omega | (simp; done) | (simp; omega))) (by rw [has_37])) (hS.pick []) ?_
        refine K.DW.q 6 (by kernel_rfl) rfl rfl (by kernel_rfl) rfl (fun w hS => K.QR.k (v := .slice a_29 (1 + 1) cap_30) (by kernel_rfl)) (hS.pick []) ?_
        refine K.DW.l 4 rfl (by kernel_rfl) rfl (K.OW.gbs [(0, .slice (some ⟨b_7, of_8, none⟩) 1 cap), (1, .slice as_36 ((W.drop 2).length) (cap - 2))] [.slice (some ⟨b_7, of_8, none⟩) 1 cap, .slice as_36 ((W.drop 2).length) (cap - 2)] hS (fun w => K.bs_run (P := Tryd.prog) w 150 68 2 _ _ Tryd.underlying150 (by kernel_rfl)) ?_)
        clear hS; intro w r_38 g_39 hg_40 hS
        refine ⟨.inl (hS.pick []), ?_⟩
        refine K.DW.l 5 rfl (by kernel_rfl) rfl (K.OW.gcall hS [0, 6] [1, 2, 3, 4, 5, 7] [.slice (some ⟨r_38, 0, none⟩) 2 2] (concat_ok _ _ _ _ (some ⟨b_7, of_8, none⟩) as_36 cap (cap - 2) (W.take 1) (W.drop 2) (by rw [List.length_take]; omega) (by rw [List.length_take]; omega) (by rw [List.length_drop]; omega) (by rw [show (W.take 1).length = 1 by rw [List.length_take]; omega]; exact hg_40) (fun w h => K.RowE.take (c := K.cStr) (d := []) (L := W) (hx w h) 1 (by omega)) x_34) ?_)
        clear hS; rintro _ _ w ⟨a_41, g_42, k_43, rfl, rfl, o_44⟩ hS
        replace hS : K.Sat w0 [g_39, gw, g_42, g_26, g_23, l_31, g_10, g_2, fr] w := hS
        refine ⟨.inl (hS.pick []), ?_⟩
        refine K.DW.l 7 rfl (by kernel_rfl) rfl (K.OW.gcall hS [2, 5] [0, 1, 3, 4, 6, 7, 8] [.slice a_41 ((restW W).length) k_43, .slice a_29 (1 + 1) cap_30] (snumbers_ok _ _ _ _ _ (restW W) ([((0, 63) : Int × Int)] ++ [((0, 4294967295) : Int × Int)]) (by omega) (by first | decide | (simp; done) | (simp; omega)) (wl_getD fun x hx => hW x (restW_mem hx)) _ (fun w h => K.RowE.len (K.Own.rowE [] (h.ownr 0 rfl o_44) rfl (fun _ => rfl)) rfl) _ (fun w h => K.RowE.len (K.Own.rowE ((0, 0) : Int × Int) (h.ownr 0 rfl o_32c) ln_33 (fun _ => rfl)) ln_33)) ?_)
        clear hS; rintro _ _ w (⟨r_45, g_46, k_47, h_48, rfl, rfl, o_49⟩ | ⟨h_50, rfl, rfl⟩) hS
        ·
          replace hS : K.Sat w0 [g_42, l_31, g_46, g_39, gw, g_26, g_23, g_10, g_2, fr] w := hS
          refine ⟨.inl (hS.pick []), ?_⟩
          refine K.DW.l 8 rfl (by kernel_rfl) rfl (K.OW.q rfl (K.QR.k (v := .tuple #[.slice r_45 ((numsV (restW W) ([((0, 63) : Int × Int)] ++ [((0, 4294967295) : Int × Int)])).length) k_47, .int .i64 0]) (by kernel_rfl)) ?_)
          refine ⟨.inl (hS.pick []), ?_⟩
          refine K.DW.q 9 (by kernel_rfl) rfl rfl (by kernel_rfl) rfl (fun w hS => K.QR.k (v := .slice r_45 ((numsV (restW W) ([((0, 63) : Int × Int)] ++ [((0, 4294967295) : Int × Int)])).length) k_47) (by kernel_rfl)) (hS.pick []) ?_
          refine K.DW.q 10 (by kernel_rfl) rfl rfl (by kernel_rfl) rfl (fun w hS => K.QR.k (v := .int .i64 0) (by kernel_rfl)) (hS.pick []) ?_
          refine K.DW.l 11 rfl (by kernel_rfl) rfl (K.OW.q rfl (K.QR.k (v := .slice r_45 ((numsV (restW W) ([((0, 63) : Int × Int)] ++ [((0, 4294967295) : Int × Int)])).length) k_47) (by kernel_rfl)) ?_)
          refine ⟨.inl (hS.pick []), ?_⟩
          refine K.DW.l 12 rfl (by kernel_rfl) rfl (K.OW.q rfl (K.QR.k (v := .int .i64 0) (by kernel_rfl)) ?_)
          refine ⟨.inl (hS.pick []), ?_⟩
          refine K.DW.done (by kernel_rfl) ?_
          refine K.thn_normal ?_
          refine K.KW.seq ?_
          refine K.KW.seq ?_
          -- 15 :112
          refine K.KW.region ?_
          refine K.RW.qs [.int .i64 0, .bool false] (by kernel_rfl) ?_
          refine K.RW.nil ?_
          refine K.thn_normal ?_
          refine K.KW.ifF rfl ?_
          refine K.KW.skip ?_
          refine K.thn_normal ?_
          refine K.KW.seq ?_
          -- 17 :115
          have hlW : (numsV (restW W) ([((0, 63) : Int × Int)] ++ [((0, 4294967295) : Int × Int)])).length = 2 := by rw [numsV_len]; exact numsE_lens h_48
          obtain ⟨b_51, rfl⟩ := o_49.some_ (by have := o_49.le; omega)
          refine K.KW.region ?_
          refine K.RW.qs [.slice (some ⟨b_51, 0, none⟩) ((numsV (restW W) ([((0, 63) : Int × Int)] ++ [((0, 4294967295) : Int × Int)])).length) k_47] (by kernel_rfl) ?_
          refine K.RW.q rfl rfl (K.QR.ix 0 1 rfl rfl rfl Tryd.underlying78 (by kernel_rfl) (by omega) (by first | (simp; done) | omega | (simp; omega))) ?_
          refine K.RW.q rfl rfl (K.QR.ld1 (v := .int .i64 ((numsV (restW W) ([((0, 63) : Int × Int)] ++ [((0, 4294967295) : Int × Int)])).getD 0 0)) rfl rfl (by kernel_rfl) (K.Own.atS (c := cI64) (d := 0) (fun _ => rfl) (hS.ownr 2 rfl o_49) rfl 0 (by omega))) ?_
          refine K.RW.qs [.int .i64 (((K.ixS (W.getD 1 []) opNm.tail) : Int) + (1 : Int))] (by kernel_rfl) ?_
          refine K.RW.q rfl rfl (K.QR.bd [(0, .int .i64 (((K.ixS (W.getD 1 []) opNm.tail) : Int) + (1 : Int)))] [.int .i64 (((K.ixS (W.getD 1 []) opNm.tail) : Int) + (1 : Int)), .int .u32 0, .int .u32 0] rfl rfl (by kernel_rfl)) ?_
          refine K.RW.q rfl rfl (K.QR.bd [(0, .int .i64 1), (1, .int .i64 ((numsV (restW W) ([((0, 63) : Int × Int)] ++ [((0, 4294967295) : Int × Int)])).getD 0 0)), (3, .agg #[.int .i64 (((K.ixS (W.getD 1 []) opNm.tail) : Int) + (1 : Int)), .int .u32 0, .int .u32 0])] [.int .i64 1, .int .i64 ((numsV (restW W) ([((0, 63) : Int × Int)] ++ [((0, 4294967295) : Int × Int)])).getD 0 0), .int .i64 0, .int .i64 (((K.ixS (W.getD 1 []) opNm.tail) : Int) + (1 : Int)), .int .u32 0, .int .u32 0] rfl rfl (by kernel_rfl)) ?_
          refine K.RW.l rfl (K.OW.gnew 57 [.int .i64 0, .int .i64 0, .int .i64 0, .int .i64 0, .int .u32 0, .int .u32 0] hS ?_)
          clear hS; intro w r_53 g_54 hg_55 hS
          refine K.RW.l rfl (K.OW.gst 0 [.int .i64 1, .int .i64 ((numsV (restW W) ([((0, 63) : Int × Int)] ++ [((0, 4294967295) : Int × Int)])).getD 0 0), .int .i64 0, .int .i64 (((K.ixS (W.getD 1 []) opNm.tail) : Int) + (1 : Int)), .int .u32 0, .int .u32 0] [.int .i64 1, .int .i64 ((numsV (restW W) ([((0, 63) : Int × Int)] ++ [((0, 4294967295) : Int × Int)])).getD 0 0), .int .i64 0, .int .i64 (((K.ixS (W.getD 1 []) opNm.tail) : Int) + (1 : Int)), .int .u32 0, .int .u32 0] hS hg_55 ?_)
          clear hS; intro w g_56 hg_57 hS
          replace hS : K.Sat w0 [g_56, g_42, l_31, g_46, g_39, gw, g_26, g_23, g_10, g_2, fr] w := hS
          refine K.RW.nil ?_
          refine K.thn_normal ?_
          refine K.KW.seq ?_
          refine K.KW.seq ?_
          -- 18 :116
          refine K.KW.region ?_
          refine K.RW.qs [.bool false] (by kernel_rfl) ?_
          refine K.RW.nil ?_
          refine K.thn_normal ?_
          refine K.KW.ifF rfl ?_
          refine K.KW.skip ?_
          refine K.thn_normal ?_
          refine K.KW.seq ?_
          refine K.KW.seq ?_
          -- 20 :119
          refine K.KW.region ?_
          refine K.RW.qs [.bool true] (by kernel_rfl) ?_
          refine K.RW.nil ?_
          refine K.thn_normal ?_
          refine K.KW.ifT rfl ?_
          -- 21 :120
          refine K.KW.region ?_
          refine K.RW.qs [.slice (some ⟨b_51, 0, none⟩) ((numsV (restW W) ([((0, 63) : Int × Int)] ++ [((0, 4294967295) : Int × Int)])).length) k_47, .slice (some ⟨b_51, 0, none⟩) ((numsV (restW W) ([((0, 63) : Int × Int)] ++ [((0, 4294967295) : Int × Int)])).length) k_47] (by kernel_rfl) ?_
          refine K.RW.q rfl rfl (K.QR.len (P := Tryd.prog) rfl rfl Tryd.underlying78) ?_
          refine K.RW.q rfl rfl (K.QR.n64 (((((numsV (restW W) ([((0, 63) : Int × Int)] ++ [((0, 4294967295) : Int × Int)])).length : Nat) : Int) : Int) - (1 : Int)) (((numsV (restW W) ([((0, 63) : Int × Int)] ++ [((0, 4294967295) : Int × Int)])).length - 1 : Nat) : Int) (by kernel_rfl) (by omega)) ?_
          refine K.RW.q rfl rfl (K.QR.ix ((numsV (restW W) ([((0, 63) : Int × Int)] ++ [((0, 4294967295) : Int × Int)])).length - 1) 1 rfl rfl rfl Tryd.underlying78 (by kernel_rfl) (by omega) (by first | (simp; done) | omega | (simp; omega))) ?_
          refine K.RW.q rfl rfl (K.QR.ld1 (v := .int .i64 ((numsV (restW W) ([((0, 63) : Int × Int)] ++ [((0, 4294967295) : Int × Int)])).getD ((numsV (restW W) ([((0, 63) : Int × Int)] ++ [((0, 4294967295) : Int × Int)])).length - 1) 0)) rfl rfl (by kernel_rfl) (K.Own.atS (c := cI64) (d := 0) (fun _ => rfl) (hS.ownr 3 rfl o_49) rfl ((numsV (restW W) ([((0, 63) : Int × Int)] ++ [((0, 4294967295) : Int × Int)])).length - 1) (by omega))) ?_
          refine K.RW.qs [.int .u32 (IntKind.u32.wrap ((numsV (restW W) ([((0, 63) : Int × Int)] ++ [((0, 4294967295) : Int × Int)])).getD ((numsV (restW W) ([((0, 63) : Int × Int)] ++ [((0, 4294967295) : Int × Int)])).length - 1) 0)), .pointer (some ⟨r_53, 3, none⟩), .pointer (some ⟨r_53, 5, none⟩)] (by kernel_rfl) ?_
          refine K.RW.l rfl (K.OW.gst 0 [.int .u32 (IntKind.u32.wrap ((numsV (restW W) ([((0, 63) : Int × Int)] ++ [((0, 4294967295) : Int × Int)])).getD ((numsV (restW W) ([((0, 63) : Int × Int)] ++ [((0, 4294967295) : Int × Int)])).length - 1) 0))] [.int .i64 1, .int .i64 ((numsV (restW W) ([((0, 63) : Int × Int)] ++ [((0, 4294967295) : Int × Int)])).getD 0 0), .int .i64 0, .int .i64 (((K.ixS (W.getD 1 []) opNm.tail) : Int) + (1 : Int)), .int .u32 0, .int .u32 (IntKind.u32.wrap ((numsV (restW W) ([((0, 63) : Int × Int)] ++ [((0, 4294967295) : Int × Int)])).getD ((numsV (restW W) ([((0, 63) : Int × Int)] ++ [((0, 4294967295) : Int × Int)])).length - 1) 0))] hS hg_57 ?_)
          clear hS; intro w g_58 hg_59 hS
          replace hS : K.Sat w0 [g_58, g_42, l_31, g_46, g_39, gw, g_26, g_23, g_10, g_2, fr] w := hS
          refine K.RW.nil ?_
          refine K.thn_normal ?_
          refine K.KW.seq ?_
          -- 22 :122
          refine K.KW.region ?_
          refine K.RW.q rfl rfl (K.QR.ldN [.int .i64 1, .int .i64 ((numsV (restW W) ([((0, 63) : Int × Int)] ++ [((0, 4294967295) : Int × Int)])).getD 0 0), .int .i64 0, .int .i64 (((K.ixS (W.getD 1 []) opNm.tail) : Int) + (1 : Int)), .int .u32 0, .int .u32 (IntKind.u32.wrap ((numsV (restW W) ([((0, 63) : Int × Int)] ++ [((0, 4294967295) : Int × Int)])).getD ((numsV (restW W) ([((0, 63) : Int × Int)] ++ [((0, 4294967295) : Int × Int)])).length - 1) 0))] rfl rfl (by kernel_rfl) (by kernel_rfl) (K.cells (K.cl ((hS.blk 0 rfl hg_59).cell rfl) (K.cl ((hS.blk 0 rfl hg_59).cell rfl) (K.cl ((hS.blk 0 rfl hg_59).cell rfl) (K.cl ((hS.blk 0 rfl hg_59).cell rfl) (K.cl ((hS.blk 0 rfl hg_59).cell rfl) (K.cl ((hS.blk 0 rfl hg_59).cell rfl) K.cl0)))))))) ?_
          refine K.RW.l rfl (K.OW.gst 9 [.int .i64 1, .int .i64 ((numsV (restW W) ([((0, 63) : Int × Int)] ++ [((0, 4294967295) : Int × Int)])).getD 0 0), .int .i64 0, .int .i64 (((K.ixS (W.getD 1 []) opNm.tail) : Int) + (1 : Int)), .int .u32 0, .int .u32 (IntKind.u32.wrap ((numsV (restW W) ([((0, 63) : Int × Int)] ++ [((0, 4294967295) : Int × Int)])).getD ((numsV (restW W) ([((0, 63) : Int × Int)] ++ [((0, 4294967295) : Int × Int)])).length - 1) 0))] [.int .i64 1, .int .i64 ((numsV (restW W) ([((0, 63) : Int × Int)] ++ [((0, 4294967295) : Int × Int)])).getD 0 0), .int .i64 0, .int .i64 (((K.ixS (W.getD 1 []) opNm.tail) : Int) + (1 : Int)), .int .u32 0, .int .u32 (IntKind.u32.wrap ((numsV (restW W) ([((0, 63) : Int × Int)] ++ [((0, 4294967295) : Int × Int)])).getD ((numsV (restW W) ([((0, 63) : Int × Int)] ++ [((0, 4294967295) : Int × Int)])).length - 1) 0))] hS hg_3 ?_)
          clear hS; intro w g_60 hg_61 hS
          replace hS : K.Sat w0 [g_58, g_42, l_31, g_46, g_39, gw, g_26, g_23, g_10, g_60, fr] w := hS
          refine K.RW.qs [.int .i64 0] (by kernel_rfl) ?_
          refine K.RW.nil ?_
          refine K.thn_normal ?_
          refine K.KW.ret ?_
          have hb : bndK (kindW W) = _ := bnd1 h_18
          have hk : kindW W = 1 := h_18
          refine ⟨.inr rfl, rfl, (.tuple #[.agg #[.int .i64 1, .int .i64 ((numsV (restW W) ([((0, 63) : Int × Int)] ++ [((0, 4294967295) : Int × Int)])).getD 0 0), .int .i64 0, .int .i64 (((K.ixS (W.getD 1 []) opNm.tail) : Int) + (1 : Int)), .int .u32 0, .int .u32 (IntKind.u32.wrap ((numsV (restW W) ([((0, 63) : Int × Int)] ++ [((0, 4294967295) : Int × Int)])).getD ((numsV (restW W) ([((0, 63) : Int × Int)] ++ [((0, 4294967295) : Int × Int)])).length - 1) 0))], .int .i64 0]), K.resAt (rs := [.cell 2 57, .tmp 3]) [.agg #[.int .i64 1, .int .i64 ((numsV (restW W) ([((0, 63) : Int × Int)] ++ [((0, 4294967295) : Int × Int)])).getD 0 0), .int .i64 0, .int .i64 (((K.ixS (W.getD 1 []) opNm.tail) : Int) + (1 : Int)), .int .u32 0, .int .u32 (IntKind.u32.wrap ((numsV (restW W) ([((0, 63) : Int × Int)] ++ [((0, 4294967295) : Int × Int)])).getD ((numsV (restW W) ([((0, 63) : Int × Int)] ++ [((0, 4294967295) : Int × Int)])).length - 1) 0))], .int .i64 0] rfl ⟨⟨_, rfl, K.lvN [.int .i64 1, .int .i64 ((numsV (restW W) ([((0, 63) : Int × Int)] ++ [((0, 4294967295) : Int × Int)])).getD 0 0), .int .i64 0, .int .i64 (((K.ixS (W.getD 1 []) opNm.tail) : Int) + (1 : Int)), .int .u32 0, .int .u32 (IntKind.u32.wrap ((numsV (restW W) ([((0, 63) : Int × Int)] ++ [((0, 4294967295) : Int × Int)])).getD ((numsV (restW W) ([((0, 63) : Int × Int)] ++ [((0, 4294967295) : Int × Int)])).length - 1) 0))] (by kernel_rfl) (by kernel_rfl) (K.cells (K.cl ((hS.blk 9 rfl hg_61).cell rfl) (K.cl ((hS.blk 9 rfl hg_61).cell rfl) (K.cl ((hS.blk 9 rfl hg_61).cell rfl) (K.cl ((hS.blk 9 rfl hg_61).cell rfl) (K.cl ((hS.blk 9 rfl hg_61).cell rfl) (K.cl ((hS.blk 9 rfl hg_61).cell rfl) K.cl0)))))))⟩, rfl, trivial⟩, [gw], ?_, hS.pick [5, 10]⟩
          exact ⟨rfl, by rw [callW_ok (by omega) (by unfold kindW; omega) (by rw [hb]; exact h_48)]; unfold callA1; rw [hb, if_neg (by omega), if_pos (by omega)]; rfl⟩
        ·
          replace hS : K.Sat w0 [g_42, l_31, g_39, gw, g_26, g_23, g_10, g_2, fr] w := hS
          refine ⟨.inl (hS.pick []), ?_⟩
          refine K.DW.l 8 rfl (by kernel_rfl) rfl (K.OW.q rfl (K.QR.k (v := .tuple #[.slice none 0 0, .int .i64 (numsE (restW W) ([((0, 63) : Int × Int)] ++ [((0, 4294967295) : Int × Int)]))]) (by kernel_rfl)) ?_)
          refine ⟨.inl (hS.pick []), ?_⟩
          refine K.DW.q 9 (by kernel_rfl) rfl rfl (by kernel_rfl) rfl (fun w hS => K.QR.k (v := .slice none 0 0) (by kernel_rfl)) (hS.pick []) ?_
          refine K.DW.q 10 (by kernel_rfl) rfl rfl (by kernel_rfl) rfl (fun w hS => K.QR.k (v := .int .i64 (numsE (restW W) ([((0, 63) : Int × Int)] ++ [((0, 4294967295) : Int × Int)]))) (by kernel_rfl)) (hS.pick []) ?_
          refine K.DW.l 11 rfl (by kernel_rfl) rfl (K.OW.q rfl (K.QR.k (v := .slice none 0 0) (by kernel_rfl)) ?_)
          refine ⟨.inl (hS.pick []), ?_⟩
          refine K.DW.l 12 rfl (by kernel_rfl) rfl (K.OW.q rfl (K.QR.k (v := .int .i64 (numsE (restW W) ([((0, 63) : Int × Int)] ++ [((0, 4294967295) : Int × Int)]))) (by kernel_rfl)) ?_)
          refine ⟨.inl (hS.pick []), ?_⟩
          refine K.DW.done (by kernel_rfl) ?_
          refine K.thn_normal ?_
          refine K.KW.seq ?_
          refine K.KW.seq ?_
          -- 15 :112
          refine K.KW.region ?_
          refine K.RW.qs [.int .i64 (numsE (restW W) ([((0, 63) : Int × Int)] ++ [((0, 4294967295) : Int × Int)]))] (by kernel_rfl) ?_
          refine K.RW.q rfl rfl (K.QR.nice (v := .bool (((numsE (restW W) ([((0, 63) : Int × Int)] ++ [((0, 4294967295) : Int × Int)])) : Int) != (0 : Int))) (by kernel_rfl) (congrArg Value.bool (bne_iff_ne.2 (by omega)))) ?_
          refine K.RW.nil ?_
          refine K.thn_normal ?_
          refine K.KW.ifT rfl ?_
          refine K.KW.seq ?_
          -- 16 :113
          refine K.KW.region ?_
          refine K.RW.q rfl rfl (K.QR.bd [] [.int .i64 0, .int .i64 0, .int .i64 0, .int .i64 0, .int .u32 0, .int .u32 0] rfl rfl (by kernel_rfl)) ?_
          refine K.RW.qs [.int .i64 (numsE (restW W) ([((0, 63) : Int × Int)] ++ [((0, 4294967295) : Int × Int)]))] (by kernel_rfl) ?_
          refine K.RW.l rfl (K.OW.gst 7 [.int .i64 0, .int .i64 0, .int .i64 0, .int .i64 0, .int .u32 0, .int .u32 0] [.int .i64 0, .int .i64 0, .int .i64 0, .int .i64 0, .int .u32 0, .int .u32 0] hS hg_3 ?_)
          clear hS; intro w g_62 hg_63 hS
          replace hS : K.Sat w0 [g_42, l_31, g_39, gw, g_26, g_23, g_10, g_62, fr] w := hS
          refine K.RW.qs [.int .i64 (numsE (restW W) ([((0, 63) : Int × Int)] ++ [((0, 4294967295) : Int × Int)]))] (by kernel_rfl) ?_
          refine K.RW.nil ?_
          refine K.thn_normal ?_
          refine K.KW.ret ?_
          refine K.thn_ret ?_
          have hb : bndK (kindW W) = _ := bnd1 h_18
          refine ⟨.inr rfl, rfl, (.tuple #[.agg #[.int .i64 0, .int .i64 0, .int .i64 0, .int .i64 0, .int .u32 0, .int .u32 0], .int .i64 (numsE (restW W) ([((0, 63) : Int × Int)] ++ [((0, 4294967295) : Int × Int)]))]), K.resAt (rs := [.cell 2 57, .tmp 3]) [.agg #[.int .i64 0, .int .i64 0, .int .i64 0, .int .i64 0, .int .u32 0, .int .u32 0], .int .i64 (numsE (restW W) ([((0, 63) : Int × Int)] ++ [((0, 4294967295) : Int × Int)]))] rfl ⟨⟨_, rfl, K.lvN [.int .i64 0, .int .i64 0, .int .i64 0, .int .i64 0, .int .u32 0, .int .u32 0] (by kernel_rfl) (by kernel_rfl) (K.cells (K.cl ((hS.blk 7 rfl hg_63).cell rfl) (K.cl ((hS.blk 7 rfl hg_63).cell rfl) (K.cl ((hS.blk 7 rfl hg_63).cell rfl) (K.cl ((hS.blk 7 rfl hg_63).cell rfl) (K.cl ((hS.blk 7 rfl hg_63).cell rfl) (K.cl ((hS.blk 7 rfl hg_63).cell rfl) K.cl0)))))))⟩, rfl, trivial⟩, [gw], ?_, hS.pick [3, 8]⟩
          exact ⟨rfl, by rw [callW_bad (by omega) (by unfold kindW; omega) (by rw [hb]; exact h_50), hb]; rfl⟩
      ·
        replace hS : K.Sat w0 [g_16, g_10, g_2, gw, fr] w := hS
        refine K.RW.qs [.tuple #[.bool false, .bool false], .bool false, .bool false, .bool false, .bool false] (by kernel_rfl) ?_
        refine K.RW.nil ?_
        refine K.thn_normal ?_
        refine K.KW.seq ?_
        refine K.KW.seq ?_
        -- 8 :106
        refine K.KW.region ?_
        refine K.RW.qs [.bool false, .bool false] (by kernel_rfl) ?_
        refine K.RW.l rfl (K.OW.gbs [(0, .bool false), (1, .bool false)] [.bool false, .bool false] hS (fun w => K.bs_run (P := Tryd.prog) w 142 4 2 _ _ Tryd.underlying142 (by kernel_rfl)) ?_)
        clear hS; intro w r_64 g_65 hg_66 hS
        refine K.RW.q rfl rfl (K.QR.len (P := Tryd.prog) rfl rfl Tryd.underlying142) ?_
        refine K.RW.qs [.int .i64 0] (by kernel_rfl) ?_
        refine K.RW.nil ?_
        refine K.thn_normal ?_
        refine K.KW.block ?_
        refine K.KW.unr 2 ?_
        refine K.Unr.succ ?_
        refine K.KW.seq ?_
        -- 9 :106
        refine K.KW.region ?_
        refine K.RW.qs [.bool true] (by kernel_rfl) ?_
        refine K.RW.nil ?_
        refine K.thn_normal ?_
        refine K.KW.seq ?_
        refine K.KW.ifT rfl ?_
        refine K.KW.skip ?_
        refine K.thn_normal ?_
        refine K.KW.seq ?_
        refine K.KW.block ?_
        refine K.KW.seq ?_
        -- 10 :106
        refine K.KW.region ?_
        refine K.RW.q rfl rfl (K.QR.ix 0 1 rfl rfl rfl Tryd.underlying142 (by kernel_rfl) (by omega) (by first | (simp; done) | omega | (simp; omega))) ?_
        refine K.RW.q rfl rfl (K.QR.ld1 (v := .bool false) rfl rfl (by kernel_rfl) ((hS.blk 0 rfl hg_66).cell rfl)) ?_
        refine K.RW.qs [.bool false] (by kernel_rfl) ?_
        refine K.RW.nil ?_
        refine K.thn_normal ?_
        refine K.KW.seq ?_
        -- 11 :107
        refine K.KW.region ?_
        refine K.RW.qs [.bool false] (by kernel_rfl) ?_
        refine K.RW.nil ?_
        refine K.thn_normal ?_
        refine K.KW.ifF rfl ?_
        refine K.KW.skip ?_
        refine K.blk_normal ?_
        refine K.thn_normal ?_
        -- 13 :106
        refine K.KW.region ?_
        refine K.RW.qs [.int .i64 1, .int .i64 1] (by kernel_rfl) ?_
        refine K.RW.nil ?_
        refine K.thn_normal ?_
        refine K.Unr.succ ?_
        refine K.KW.seq ?_
        -- 9 :106
        refine K.KW.region ?_
        refine K.RW.qs [.bool true] (by kernel_rfl) ?_
        refine K.RW.nil ?_
        refine K.thn_normal ?_
        refine K.KW.seq ?_
        refine K.KW.ifT rfl ?_
        refine K.KW.skip ?_
        refine K.thn_normal ?_
        refine K.KW.seq ?_
        refine K.KW.block ?_
        refine K.KW.seq ?_
        -- 10 :106
        refine K.KW.region ?_
        refine K.RW.q rfl rfl (K.QR.ix 1 1 rfl rfl rfl Tryd.underlying142 (by kernel_rfl) (by omega) (by first | (simp; done) | omega | (simp; omega))) ?_
        refine K.RW.q rfl rfl (K.QR.ld1 (v := .bool false) rfl rfl (by kernel_rfl) ((hS.blk 0 rfl hg_66).cell rfl)) ?_
        refine K.RW.qs [.bool false] (by kernel_rfl) ?_
        refine K.RW.nil ?_
        refine K.thn_normal ?_
        refine K.KW.seq ?_
        -- 11 :107
        refine K.KW.region ?_
        refine K.RW.qs [.bool false] (by kernel_rfl) ?_
        refine K.RW.nil ?_
        refine K.thn_normal ?_
        refine K.KW.ifF rfl ?_
        refine K.KW.skip ?_
        refine K.blk_normal ?_
        refine K.thn_normal ?_
        -- 13 :106
        refine K.KW.region ?_
        refine K.RW.qs [.int .i64 2, .int .i64 2] (by kernel_rfl) ?_
        refine K.RW.nil ?_
        refine K.thn_normal ?_
        refine K.Unr.zero ?_
        refine K.KW.seq ?_
        -- 9 :106
        refine K.KW.region ?_
        refine K.RW.qs [.bool false] (by kernel_rfl) ?_
        refine K.RW.nil ?_
        refine K.thn_normal ?_
        refine K.KW.seq ?_
        refine K.KW.ifF rfl ?_
        refine K.KW.exit ?_
        refine K.thn_exit ?_
        refine K.thn_exit ?_
        refine K.blk_hit ?_
        refine K.thn_normal ?_
        refine K.KW.seq ?_
        -- 14 :111
        have hrl := restW_len W
        refine K.KW.gdrawn [] hS (by kernel_rfl) ?_
        clear hS; intro w hS
        refine K.DW.q 0 (by kernel_rfl) rfl rfl (by kernel_rfl) rfl (fun w hS => K.QR.k (v := .slice (some ⟨b_7, of_8, none⟩) W.length cap) (by kernel_rfl)) (hS.pick []) ?_
        refine K.DW.q 1 (by kernel_rfl) rfl rfl (by kernel_rfl) rfl (fun w hS => K.QR.slHi (size := 1) 1 rfl rfl rfl Tryd.underlying68 (by kernel_rfl) (by omega)) (hS.pick []) ?_
        refine K.DW.q 2 (by kernel_rfl) rfl rfl (by kernel_rfl) rfl (fun w hS => K.QR.k (v := .slice (some ⟨b_7, of_8, none⟩) W.length cap) (by kernel_rfl)) (hS.pick []) ?_
        obtain ⟨as_69, has_70⟩ : ∃ q, q = K.shift (some ⟨b_7, of_8, none⟩) cap 2 1 := ⟨_, rfl⟩
        have x_67 : ∀ w, K.Sat w0 [gw] w → K.RowE w as_69 (W.drop 2).length 1 (fun i => K.cStr ((W.drop 2).getD i [])) := fun w h => has_70 ▸ K.RowE.drop (c := K.cStr) (d := []) (L := W) (cap := cap) (hx w h) 2 (by first | omega | (simp; done) | (simp; omega)) ((by omega))
        have n_68 : (W.drop 2).length = W.length - 2 := List.length_drop
        refine K.DW.q 3 (by kernel_rfl) rfl rfl (by kernel_rfl) rfl (fun w hS => K.QR.turn (v' := .slice as_69 ((W.drop 2).length) (cap - 2)) (K.QR.slLo (size := 1) (m := W.length) (k := ((W.drop 2).length)) 2 rfl rfl rfl Tryd.underlying68 (by kernel_rfl) (by first | omega | (simp; done) | (simp; omega)) (by first | omega | (simp; done) | (simp; omega))) (by rw [has_70])) (hS.pick []) ?_
        refine K.DW.q 6 (by kernel_rfl) rfl rfl (by kernel_rfl) rfl (fun w hS => K.QR.k (v := .slice (some ⟨r_15, 0, none⟩) 1 1) (by kernel_rfl)) (hS.pick []) ?_
        refine K.DW.l 4 rfl (by kernel_rfl) rfl (K.OW.gbs [(0, .slice (some ⟨b_7, of_8, none⟩) 1 cap), (1, .slice as_69 ((W.drop 2).length) (cap - 2))] [.slice (some ⟨b_7, of_8, none⟩) 1 cap, .slice as_69 ((W.drop 2).length) (cap - 2)] hS (fun w => K.bs_run (P := Tryd.prog) w 150 68 2 _ _ Tryd.underlying150 (by kernel_rfl)) ?_)
        clear hS; intro w r_71 g_72 hg_73 hS
        refine ⟨.inl (hS.pick []), ?_⟩
        refine K.DW.l 5 rfl (by kernel_rfl) rfl (K.OW.gcall hS [0, 5] [1, 2, 3, 4, 6] [.slice (some ⟨r_71, 0, none⟩) 2 2] (concat_ok _ _ _ _ (some ⟨b_7, of_8, none⟩) as_69 cap (cap - 2) (W.take 1) (W.drop 2) (by rw [List.length_take]; omega) (by rw [List.length_take]; omega) (by rw [List.length_drop]; omega) (by rw [show (W.take 1).length = 1 by rw [List.length_take]; omega]; exact hg_73) (fun w h => K.RowE.take (c := K.cStr) (d := []) (L := W) (hx w h) 1 (by omega)) x_67) ?_)
        clear hS; rintro _ _ w ⟨a_74, g_75, k_76, rfl, rfl, o_77⟩ hS
        replace hS : K.Sat w0 [g_72, gw, g_75, g_65, g_16, g_10, g_2, fr] w := hS
        refine ⟨.inl (hS.pick []), ?_⟩
        refine K.DW.l 7 rfl (by kernel_rfl) rfl (K.OW.gcall hS [2, 4] [0, 1, 3, 5, 6, 7] [.slice a_74 ((restW W).length) k_76, .slice (some ⟨r_15, 0, none⟩) 1 1] (snumbers_ok _ _ _ _ _ (restW W) ([((0, 63) : Int × Int)] : List (Int × Int)) (by omega) (by first | decide | (simp; done) | (simp; omega)) (wl_getD fun x hx => hW x (restW_mem hx)) _ (fun w h => K.RowE.len (K.Own.rowE [] (h.ownr 0 rfl o_77) rfl (fun _ => rfl)) rfl) _ (fun w h => K.Blk.rowE (c := cRg) ((0, 0) : Int × Int) (L := [((0, 63) : Int × Int)]) (h.blk 0 rfl hg_17) (fun _ => rfl) rfl)) ?_)
        clear hS; rintro _ _ w (⟨r_78, g_79, k_80, h_81, rfl, rfl, o_82⟩ | ⟨h_83, rfl, rfl⟩) hS
        ·
          replace hS : K.Sat w0 [g_75, g_16, g_79, g_72, gw, g_65, g_10, g_2, fr] w := hS
          refine ⟨.inl (hS.pick []), ?_⟩
          refine K.DW.l 8 rfl (by kernel_rfl) rfl (K.OW.q rfl (K.QR.k (v := .tuple #[.slice r_78 ((numsV (restW W) ([((0, 63) : Int × Int)] : List (Int × Int))).length) k_80, .int .i64 0]) (by kernel_rfl)) ?_)
          refine ⟨.inl (hS.pick []), ?_⟩
          refine K.DW.q 9 (by kernel_rfl) rfl rfl (by kernel_rfl) rfl (fun w hS => K.QR.k (v := .slice r_78 ((numsV (restW W) ([((0, 63) : Int × Int)] : List (Int × Int))).length) k_80) (by kernel_rfl)) (hS.pick []) ?_
          refine K.DW.q 10 (by kernel_rfl) rfl rfl (by kernel_rfl) rfl (fun w hS => K.QR.k (v := .int .i64 0) (by kernel_rfl)) (hS.pick []) ?_
          refine K.DW.l 11 rfl (by kernel_rfl) rfl (K.OW.q rfl (K.QR.k (v := .slice r_78 ((numsV (restW W) ([((0, 63) : Int × Int)] : List (Int × Int))).length) k_80) (by kernel_rfl)) ?_)
          refine ⟨.inl (hS.pick []), ?_⟩
          refine K.DW.l 12 rfl (by kernel_rfl) rfl (K.OW.q rfl (K.QR.k (v := .int .i64 0) (by kernel_rfl)) ?_)
          refine ⟨.inl (hS.pick []), ?_⟩
          refine K.DW.done (by kernel_rfl) ?_
          refine K.thn_normal ?_
          refine K.KW.seq ?_
          refine K.KW.seq ?_
          -- 15 :112
          refine K.KW.region ?_
          refine K.RW.qs [.int .i64 0, .bool false] (by kernel_rfl) ?_
          refine K.RW.nil ?_
          refine K.thn_normal ?_
          refine K.KW.ifF rfl ?_
          refine K.KW.skip ?_
          refine K.thn_normal ?_
          refine K.KW.seq ?_
          -- 17 :115
          have hlW : (numsV (restW W) ([((0, 63) : Int × Int)] : List (Int × Int))).length = 1 := by rw [numsV_len]; exact numsE_lens h_81
          obtain ⟨b_84, rfl⟩ := o_82.some_ (by have := o_82.le; omega)
          refine K.KW.region ?_
          refine K.RW.qs [.slice (some ⟨b_84, 0, none⟩) ((numsV (restW W) ([((0, 63) : Int × Int)] : List (Int × Int))).length) k_80] (by kernel_rfl) ?_
          refine K.RW.q rfl rfl (K.QR.ix 0 1 rfl rfl rfl Tryd.underlying78 (by kernel_rfl) (by omega) (by first | (simp; done) | omega | (simp; omega))) ?_
          refine K.RW.q rfl rfl (K.QR.ld1 (v := .int .i64 ((numsV (restW W) ([((0, 63) : Int × Int)] : List (Int × Int))).getD 0 0)) rfl rfl (by kernel_rfl) (K.Own.atS (c := cI64) (d := 0) (fun _ => rfl) (hS.ownr 2 rfl o_82) rfl 0 (by omega))) ?_
          refine K.RW.qs [.int .i64 (((K.ixS (W.getD 1 []) opNm.tail) : Int) + (1 : Int))] (by kernel_rfl) ?_
          refine K.RW.q rfl rfl (K.QR.bd [(0, .int .i64 (((K.ixS (W.getD 1 []) opNm.tail) : Int) + (1 : Int)))] [.int .i64 (((K.ixS (W.getD 1 []) opNm.tail) : Int) + (1 : Int)), .int .u32 0, .int .u32 0] rfl rfl (by kernel_rfl)) ?_
          refine K.RW.q rfl rfl (K.QR.bd [(0, .int .i64 1), (1, .int .i64 ((numsV (restW W) ([((0, 63) : Int × Int)] : List (Int × Int))).getD 0 0)), (3, .agg #[.int .i64 (((K.ixS (W.getD 1 []) opNm.tail) : Int) + (1 : Int)), .int .u32 0, .int .u32 0])] [.int .i64 1, .int .i64 ((numsV (restW W) ([((0, 63) : Int × Int)] : List (Int × Int))).getD 0 0), .int .i64 0, .int .i64 (((K.ixS (W.getD 1 []) opNm.tail) : Int) + (1 : Int)), .int .u32 0, .int .u32 0] rfl rfl (by kernel_rfl)) ?_
          refine K.RW.l rfl (K.OW.gnew 57 [.int .i64 0, .int .i64 0, .int .i64 0, .int .i64 0, .int .u32 0, .int .u32 0] hS ?_)
          clear hS; intro w r_86 g_87 hg_88 hS
          refine K.RW.l rfl (K.OW.gst 0 [.int .i64 1, .int .i64 ((numsV (restW W) ([((0, 63) : Int × Int)] : List (Int × Int))).getD 0 0), .int .i64 0, .int .i64 (((K.ixS (W.getD 1 []) opNm.tail) : Int) + (1 : Int)), .int .u32 0, .int .u32 0] [.int .i64 1, .int .i64 ((numsV (restW W) ([((0, 63) : Int × Int)] : List (Int × Int))).getD 0 0), .int .i64 0, .int .i64 (((K.ixS (W.getD 1 []) opNm.tail) : Int) + (1 : Int)), .int .u32 0, .int .u32 0] hS hg_88 ?_)
          clear hS; intro w g_89 hg_90 hS
          replace hS : K.Sat w0 [g_89, g_75, g_16, g_79, g_72, gw, g_65, g_10, g_2, fr] w := hS
          refine K.RW.nil ?_
          refine K.thn_normal ?_
          refine K.KW.seq ?_
          refine K.KW.seq ?_
          -- 18 :116
          refine K.KW.region ?_
          refine K.RW.qs [.bool false] (by kernel_rfl) ?_
          refine K.RW.nil ?_
          refine K.thn_normal ?_
          refine K.KW.ifF rfl ?_
          refine K.KW.skip ?_
          refine K.thn_normal ?_
          refine K.KW.seq ?_
          refine K.KW.seq ?_
          -- 20 :119
          refine K.KW.region ?_
          refine K.RW.qs [.bool false] (by kernel_rfl) ?_
          refine K.RW.nil ?_
          refine K.thn_normal ?_
          refine K.KW.ifF rfl ?_
          refine K.KW.skip ?_
          refine K.thn_normal ?_
          refine K.KW.seq ?_
          -- 22 :122
          refine K.KW.region ?_
          refine K.RW.q rfl rfl (K.QR.ldN [.int .i64 1, .int .i64 ((numsV (restW W) ([((0, 63) : Int × Int)] : List (Int × Int))).getD 0 0), .int .i64 0, .int .i64 (((K.ixS (W.getD 1 []) opNm.tail) : Int) + (1 : Int)), .int .u32 0, .int .u32 0] rfl rfl (by kernel_rfl) (by kernel_rfl) (K.cells (K.cl ((hS.blk 0 rfl hg_90).cell rfl) (K.cl ((hS.blk 0 rfl hg_90).cell rfl) (K.cl ((hS.blk 0 rfl hg_90).cell rfl) (K.cl ((hS.blk 0 rfl hg_90).cell rfl) (K.cl ((hS.blk 0 rfl hg_90).cell rfl) (K.cl ((hS.blk 0 rfl hg_90).cell rfl) K.cl0)))))))) ?_
          refine K.RW.l rfl (K.OW.gst 8 [.int .i64 1, .int .i64 ((numsV (restW W) ([((0, 63) : Int × Int)] : List (Int × Int))).getD 0 0), .int .i64 0, .int .i64 (((K.ixS (W.getD 1 []) opNm.tail) : Int) + (1 : Int)), .int .u32 0, .int .u32 0] [.int .i64 1, .int .i64 ((numsV (restW W) ([((0, 63) : Int × Int)] : List (Int × Int))).getD 0 0), .int .i64 0, .int .i64 (((K.ixS (W.getD 1 []) opNm.tail) : Int) + (1 : Int)), .int .u32 0, .int .u32 0] hS hg_3 ?_)
          clear hS; intro w g_91 hg_92 hS
          replace hS : K.Sat w0 [g_89, g_75, g_16, g_79, g_72, gw, g_65, g_10, g_91, fr] w := hS
          refine K.RW.qs [.int .i64 0] (by kernel_rfl) ?_
          refine K.RW.nil ?_
          refine K.thn_normal ?_
          refine K.KW.ret ?_
          have hb : bndK (kindW W) = _ := bnd2 h_19
          have hk : kindW W = 2 := h_19
          refine ⟨.inr rfl, rfl, (.tuple #[.agg #[.int .i64 1, .int .i64 ((numsV (restW W) ([((0, 63) : Int × Int)] : List (Int × Int))).getD 0 0), .int .i64 0, .int .i64 (((K.ixS (W.getD 1 []) opNm.tail) : Int) + (1 : Int)), .int .u32 0, .int .u32 0], .int .i64 0]), K.resAt (rs := [.cell 2 57, .tmp 3]) [.agg #[.int .i64 1, .int .i64 ((numsV (restW W) ([((0, 63) : Int × Int)] : List (Int × Int))).getD 0 0), .int .i64 0, .int .i64 (((K.ixS (W.getD 1 []) opNm.tail) : Int) + (1 : Int)), .int .u32 0, .int .u32 0], .int .i64 0] rfl ⟨⟨_, rfl, K.lvN [.int .i64 1, .int .i64 ((numsV (restW W) ([((0, 63) : Int × Int)] : List (Int × Int))).getD 0 0), .int .i64 0, .int .i64 (((K.ixS (W.getD 1 []) opNm.tail) : Int) + (1 : Int)), .int .u32 0, .int .u32 0] (by kernel_rfl) (by kernel_rfl) (K.cells (K.cl ((hS.blk 8 rfl hg_92).cell rfl) (K.cl ((hS.blk 8 rfl hg_92).cell rfl) (K.cl ((hS.blk 8 rfl hg_92).cell rfl) (K.cl ((hS.blk 8 rfl hg_92).cell rfl) (K.cl ((hS.blk 8 rfl hg_92).cell rfl) (K.cl ((hS.blk 8 rfl hg_92).cell rfl) K.cl0)))))))⟩, rfl, trivial⟩, [gw], ?_, hS.pick [5, 9]⟩
          exact ⟨rfl, by rw [callW_ok (by omega) (by unfold kindW; omega) (by rw [hb]; exact h_81)]; unfold callA1; rw [hb, if_neg (by omega), if_neg (by omega)]; rfl⟩
        ·
          replace hS : K.Sat w0 [g_75, g_16, g_72, gw, g_65, g_10, g_2, fr] w := hS
          refine ⟨.inl (hS.pick []), ?_⟩
          refine K.DW.l 8 rfl (by kernel_rfl) rfl (K.OW.q rfl (K.QR.k (v := .tuple #[.slice none 0 0, .int .i64 (numsE (restW W) ([((0, 63) : Int × Int)] : List (Int × Int)))]) (by kernel_rfl)) ?_)
          refine ⟨.inl (hS.pick []), ?_⟩
          refine K.DW.q 9 (by kernel_rfl) rfl rfl (by kernel_rfl) rfl (fun w hS => K.QR.k (v := .slice none 0 0) (by kernel_rfl)) (hS.pick []) ?_
          refine K.DW.q 10 (by kernel_rfl) rfl rfl (by kernel_rfl) rfl (fun w hS => K.QR.k (v := .int .i64 (numsE (restW W) ([((0, 63) : Int × Int)] : List (Int × Int)))) (by kernel_rfl)) (hS.pick []) ?_
          refine K.DW.l 11 rfl (by kernel_rfl) rfl (K.OW.q rfl (K.QR.k (v := .slice none 0 0) (by kernel_rfl)) ?_)
          refine ⟨.inl (hS.pick []), ?_⟩
          refine K.DW.l 12 rfl (by kernel_rfl) rfl (K.OW.q rfl (K.QR.k (v := .int .i64 (numsE (restW W) ([((0, 63) : Int × Int)] : List (Int × Int)))) (by kernel_rfl)) ?_)
          refine ⟨.inl (hS.pick []), ?_⟩
          refine K.DW.done (by kernel_rfl) ?_
          refine K.thn_normal ?_
          refine K.KW.seq ?_
          refine K.KW.seq ?_
          -- 15 :112
          refine K.KW.region ?_
          refine K.RW.qs [.int .i64 (numsE (restW W) ([((0, 63) : Int × Int)] : List (Int × Int)))] (by kernel_rfl) ?_
          refine K.RW.q rfl rfl (K.QR.nice (v := .bool (((numsE (restW W) ([((0, 63) : Int × Int)] : List (Int × Int))) : Int) != (0 : Int))) (by kernel_rfl) (congrArg Value.bool (bne_iff_ne.2 (by omega)))) ?_
          refine K.RW.nil ?_
          refine K.thn_normal ?_
          refine K.KW.ifT rfl ?_
          refine K.KW.seq ?_
          -- 16 :113
          refine K.KW.region ?_
          refine K.RW.q rfl rfl (K.QR.bd [] [.int .i64 0, .int .i64 0, .int .i64 0, .int .i64 0, .int .u32 0, .int .u32 0] rfl rfl (by kernel_rfl)) ?_
          refine K.RW.qs [.int .i64 (numsE (restW W) ([((0, 63) : Int × Int)] : List (Int × Int)))] (by kernel_rfl) ?_
          refine K.RW.l rfl (K.OW.gst 6 [.int .i64 0, .int .i64 0, .int .i64 0, .int .i64 0, .int .u32 0, .int .u32 0] [.int .i64 0, .int .i64 0, .int .i64 0, .int .i64 0, .int .u32 0, .int .u32 0] hS hg_3 ?_)
          clear hS; intro w g_93 hg_94 hS
          replace hS : K.Sat w0 [g_75, g_16, g_72, gw, g_65, g_10, g_93, fr] w := hS
          refine K.RW.qs [.int .i64 (numsE (restW W) ([((0, 63) : Int × Int)] : List (Int × Int)))] (by kernel_rfl) ?_
          refine K.RW.nil ?_
          refine K.thn_normal ?_
          refine K.KW.ret ?_
          refine K.thn_ret ?_
          have hb : bndK (kindW W) = _ := bnd2 h_19
          refine ⟨.inr rfl, rfl, (.tuple #[.agg #[.int .i64 0, .int .i64 0, .int .i64 0, .int .i64 0, .int .u32 0, .int .u32 0], .int .i64 (numsE (restW W) ([((0, 63) : Int × Int)] : List (Int × Int)))]), K.resAt (rs := [.cell 2 57, .tmp 3]) [.agg #[.int .i64 0, .int .i64 0, .int .i64 0, .int .i64 0, .int .u32 0, .int .u32 0], .int .i64 (numsE (restW W) ([((0, 63) : Int × Int)] : List (Int × Int)))] rfl ⟨⟨_, rfl, K.lvN [.int .i64 0, .int .i64 0, .int .i64 0, .int .i64 0, .int .u32 0, .int .u32 0] (by kernel_rfl) (by kernel_rfl) (K.cells (K.cl ((hS.blk 6 rfl hg_94).cell rfl) (K.cl ((hS.blk 6 rfl hg_94).cell rfl) (K.cl ((hS.blk 6 rfl hg_94).cell rfl) (K.cl ((hS.blk 6 rfl hg_94).cell rfl) (K.cl ((hS.blk 6 rfl hg_94).cell rfl) (K.cl ((hS.blk 6 rfl hg_94).cell rfl) K.cl0)))))))⟩, rfl, trivial⟩, [gw], ?_, hS.pick [3, 7]⟩
          exact ⟨rfl, by rw [callW_bad (by omega) (by unfold kindW; omega) (by rw [hb]; exact h_83), hb]; rfl⟩
      ·
        replace hS : K.Sat w0 [g_16, g_10, g_2, gw, fr] w := hS
        refine K.RW.qs [.tuple #[.bool true, .bool true], .bool true, .bool true, .bool true, .bool true] (by kernel_rfl) ?_
        refine K.RW.nil ?_
        refine K.thn_normal ?_
        refine K.KW.seq ?_
        refine K.KW.seq ?_
        -- 8 :106
        refine K.KW.region ?_
        refine K.RW.qs [.bool true, .bool true] (by kernel_rfl) ?_
        refine K.RW.l rfl (K.OW.gbs [(0, .bool true), (1, .bool true)] [.bool true, .bool true] hS (fun w => K.bs_run (P := Tryd.prog) w 142 4 2 _ _ Tryd.underlying142 (by kernel_rfl)) ?_)
        clear hS; intro w r_95 g_96 hg_97 hS
        refine K.RW.q rfl rfl (K.QR.len (P := Tryd.prog) rfl rfl Tryd.underlying142) ?_
        refine K.RW.qs [.int .i64 0] (by kernel_rfl) ?_
        refine K.RW.nil ?_
        refine K.thn_normal ?_
        refine K.KW.block ?_
        refine K.KW.unr 2 ?_
        refine K.Unr.succ ?_
        refine K.KW.seq ?_
        -- 9 :106
        refine K.KW.region ?_
        refine K.RW.qs [.bool true] (by kernel_rfl) ?_
        refine K.RW.nil ?_
        refine K.thn_normal ?_
        refine K.KW.seq ?_
        refine K.KW.ifT rfl ?_
        refine K.KW.skip ?_
        refine K.thn_normal ?_
        refine K.KW.seq ?_
        refine K.KW.block ?_
        refine K.KW.seq ?_
        -- 10 :106
        refine K.KW.region ?_
        refine K.RW.q rfl rfl (K.QR.ix 0 1 rfl rfl rfl Tryd.underlying142 (by kernel_rfl) (by omega) (by first | (simp; done) | omega | (simp; omega))) ?_
        refine K.RW.q rfl rfl (K.QR.ld1 (v := .bool true) rfl rfl (by kernel_rfl) ((hS.blk 0 rfl hg_97).cell rfl)) ?_
        refine K.RW.qs [.bool true] (by kernel_rfl) ?_
        refine K.RW.nil ?_
        refine K.thn_normal ?_
        refine K.KW.seq ?_
        -- 11 :107
        refine K.KW.region ?_
        refine K.RW.qs [.bool true] (by kernel_rfl) ?_
        refine K.RW.nil ?_
        refine K.thn_normal ?_
        refine K.KW.ifT rfl ?_
        -- 12 :108
        refine K.KW.region ?_
        refine K.RW.qs [.slice (some ⟨r_15, 0, none⟩) 1 1] (by kernel_rfl) ?_
        refine K.RW.q rfl rfl (K.QR.bd [(0, .int .i64 0), (1, .int .i64 4294967295)] [.int .i64 0, .int .i64 4294967295] rfl rfl (by kernel_rfl)) ?_
        refine K.RW.l rfl (K.OW.gbs [(0, .agg #[.int .i64 0, .int .i64 4294967295])] [.int .i64 0, .int .i64 4294967295] hS (fun w => K.bs_run (P := Tryd.prog) w 141 136 1 _ _ Tryd.underlying141 (by kernel_rfl)) ?_)
        clear hS; intro w r_98 g_99 hg_100 hS
        have o_101 : K.OwnG g_16 136 2 (some ⟨r_15, 0, none⟩) 1 1 (([((0, 63) : Int × Int)]).flatMap cRg) := K.OwnG.ofPt hg_17 1 (by unfold maxLen; omega) rfl
        refine K.RW.l rfl (K.OW.gapp (P := Tryd.prog) (xs := ([((0, 63) : Int × Int)]).flatMap cRg) (z := .agg #[.int .i64 0, .int .i64 0]) (size := 2) (bytes := 16) 2 [.int .i64 0, .int .i64 4294967295] hS o_101 ?_ (fun j u hj => (by rw [Nat.zero_add]; exact (hS.blk 0 rfl hg_100).cell hj)) (K.one_cells (by rfl)) (by rfl) Tryd.underlying141 (by kernel_rfl) rfl (by decide) (by unfold maxLen; omega) (by omega))
        clear hS; intro a_102 cap_103 w l_104 o_105 hS
        have ln_106 : (([((0, 63) : Int × Int)] ++ [((0, 4294967295) : Int × Int)])).length = 1 + 1 := by rw [List.length_append]; rfl
        have o_105c := K.OwnG.cast (xs' := (([((0, 63) : Int × Int)] ++ [((0, 4294967295) : Int × Int)])).flatMap cRg) o_105 rfl (K.fl_snoc cRg [((0, 63) : Int × Int)] ((0, 4294967295) : Int × Int) rfl)
        replace hS : K.Sat w0 [g_99, g_96, l_104, g_10, g_2, gw, fr] w := hS
        refine K.RW.qs [.slice a_102 (1 + 1) cap_103] (by kernel_rfl) ?_
        refine K.RW.nil ?_
        refine K.blk_normal ?_
        refine K.thn_normal ?_
        -- 13 :106
        refine K.KW.region ?_
        refine K.RW.qs [.int .i64 1, .int .i64 1] (by kernel_rfl) ?_
        refine K.RW.nil ?_
        refine K.thn_normal ?_
        refine K.Unr.succ ?_
        refine K.KW.seq ?_
        -- 9 :106
        refine K.KW.region ?_
        refine K.RW.qs [.bool true] (by kernel_rfl) ?_
        refine K.RW.nil ?_
        refine K.thn_normal ?_
        refine K.KW.seq ?_
        refine K.KW.ifT rfl ?_
        refine K.KW.skip ?_
        refine K.thn_normal ?_
        refine K.KW.seq ?_
        refine K.KW.block ?_
        refine K.KW.seq ?_
        -- 10 :106
        refine K.KW.region ?_
        refine K.RW.q rfl rfl (K.QR.ix 1 1 rfl rfl rfl Tryd.underlying142 (by kernel_rfl) (by omega) (by first | (simp; done) | omega | (simp; omega))) ?_
        refine K.RW.q rfl rfl (K.QR.ld1 (v := .bool true) rfl rfl (by kernel_rfl) ((hS.blk 1 rfl hg_97).cell rfl)) ?_
        refine K.RW.qs [.bool true] (by kernel_rfl) ?_
        refine K.RW.nil ?_
        refine K.thn_normal ?_
        refine K.KW.seq ?_
        -- 11 :107
        refine K.KW.region ?_
        refine K.RW.qs [.bool true] (by kernel_rfl) ?_
        refine K.RW.nil ?_
        refine K.thn_normal ?_
        refine K.KW.ifT rfl ?_
        -- 12 :108
        refine K.KW.region ?_
        refine K.RW.qs [.slice a_102 (1 + 1) cap_103] (by kernel_rfl) ?_
        refine K.RW.q rfl rfl (K.QR.bd [(0, .int .i64 0), (1, .int .i64 4294967295)] [.int .i64 0, .int .i64 4294967295] rfl rfl (by kernel_rfl)) ?_
        refine K.RW.l rfl (K.OW.gbs [(0, .agg #[.int .i64 0, .int .i64 4294967295])] [.int .i64 0, .int .i64 4294967295] hS (fun w => K.bs_run (P := Tryd.prog) w 141 136 1 _ _ Tryd.underlying141 (by kernel_rfl)) ?_)
        clear hS; intro w r_107 g_108 hg_109 hS
        refine K.RW.l rfl (K.OW.gapp (P := Tryd.prog) (xs := (([((0, 63) : Int × Int)] ++ [((0, 4294967295) : Int × Int)])).flatMap cRg) (z := .agg #[.int .i64 0, .int .i64 0]) (size := 2) (bytes := 16) 3 [.int .i64 0, .int .i64 4294967295] hS o_105c ?_ (fun j u hj => (by rw [Nat.zero_add]; exact (hS.blk 0 rfl hg_109).cell hj)) (K.one_cells (by rfl)) (by rfl) Tryd.underlying141 (by kernel_rfl) rfl (by decide) (by unfold maxLen; omega) (by omega))
        clear hS; intro a_110 cap_111 w l_112 o_113 hS
        have ln_114 : ((([((0, 63) : Int × Int)] ++ [((0, 4294967295) : Int × Int)]) ++ [((0, 4294967295) : Int × Int)])).length = 1 + 1 + 1 := by rw [List.length_append, ln_106]; rfl
        have o_113c := K.OwnG.cast (xs' := ((([((0, 63) : Int × Int)] ++ [((0, 4294967295) : Int × Int)]) ++ [((0, 4294967295) : Int × Int)])).flatMap cRg) o_113 rfl (K.fl_snoc cRg ([((0, 63) : Int × Int)] ++ [((0, 4294967295) : Int × Int)]) ((0, 4294967295) : Int × Int) rfl)
        replace hS : K.Sat w0 [g_108, g_99, g_96, l_112, g_10, g_2, gw, fr] w := hS
        refine K.RW.qs [.slice a_110 (1 + 1 + 1) cap_111] (by kernel_rfl) ?_
        refine K.RW.nil ?_
        refine K.blk_normal ?_
        refine K.thn_normal ?_
        -- 13 :106
        refine K.KW.region ?_
        refine K.RW.qs [.int .i64 2, .int .i64 2] (by kernel_rfl) ?_
        refine K.RW.nil ?_
        refine K.thn_normal ?_
        refine K.Unr.zero ?_
        refine K.KW.seq ?_
        -- 9 :106
        refine K.KW.region ?_
        refine K.RW.qs [.bool false] (by kernel_rfl) ?_
        refine K.RW.nil ?_
        refine K.thn_normal ?_
        refine K.KW.seq ?_
        refine K.KW.ifF rfl ?_
        refine K.KW.exit ?_
        refine K.thn_exit ?_
        refine K.thn_exit ?_
        refine K.blk_hit ?_
        refine K.thn_normal ?_
        refine K.KW.seq ?_
        -- 14 :111
        have hrl := restW_len W
        refine K.KW.gdrawn [] hS (by kernel_rfl) ?_
        clear hS; intro w hS
        refine K.DW.q 0 (by kernel_rfl) rfl rfl (by kernel_rfl) rfl (fun w hS => K.QR.k (v := .slice (some ⟨b_7, of_8, none⟩) W.length cap) (by kernel_rfl)) (hS.pick []) ?_
        refine K.DW.q 1 (by kernel_rfl) rfl rfl (by kernel_rfl) rfl (fun w hS => K.QR.slHi (size := 1) 1 rfl rfl rfl Tryd.underlying68 (by kernel_rfl) (by omega)) (hS.pick []) ?_
        refine K.DW.q 2 (by kernel_rfl) rfl rfl (by kernel_rfl) rfl (fun w hS => K.QR.k (v := .slice (some ⟨b_7, of_8, none⟩) W.length cap) (by kernel_rfl)) (hS.pick []) ?_
        obtain ⟨as_117, has_118⟩ : ∃ q, q = K.shift (some ⟨b_7, of_8, none⟩) cap 2 1 := ⟨_, rfl⟩
        have x_115 : ∀ w, K.Sat w0 [gw] w → K.RowE w as_117 (W.drop 2).length 1 (fun i => K.cStr ((W.drop 2).getD i [])) := fun w h => has_118 ▸ K.RowE.drop (c := K.cStr) (d := []) (L := W) (cap := cap) (hx w h) 2 (by first | omega | (simp; done) | (simp; omega)) ((by omega))
        have n_116 : (W.drop 2).length = W.length - 2 := List.length_drop
        refine K.DW.q 3 (by kernel_rfl) rfl rfl (by kernel_rfl) rfl (fun w hS => K.QR.turn (v' := .slice as_117 ((W.drop 2).length) (cap - 2)) (K.QR.slLo (size := 1) (m := W.length) (k := ((W.drop 2).length)) 2 rfl rfl rfl Tryd.underlying68 (by kernel_rfl) (by first | omega | (simp; done) | (simp; omega)) (by first | omega | (simp; done) | (simp; omega))) (by rw [has_118])) (hS.pick []) ?_
        refine K.DW.q 6 (by kernel_rfl) rfl rfl (by kernel_rfl) rfl (fun w hS => K.QR.k (v := .slice a_110 (1 + 1 + 1) cap_111) (by kernel_rfl)) (hS.pick []) ?_
        refine K.DW.l 4 rfl (by kernel_rfl) rfl (K.OW.gbs [(0, .slice (some ⟨b_7, of_8, none⟩) 1 cap), (1, .slice as_117 ((W.drop 2).length) (cap - 2))] [.slice (some ⟨b_7, of_8, none⟩) 1 cap, .slice as_117 ((W.drop 2).length) (cap - 2)] hS (fun w => K.bs_run (P := Tryd.prog) w 150 68 2 _ _ Tryd.underlying150 (by kernel_rfl)) ?_)
        clear hS; intro w r_119 g_120 hg_121 hS
        refine ⟨.inl (hS.pick []), ?_⟩
        refine K.DW.l 5 rfl (by kernel_rfl) rfl (K.OW.gcall hS [0, 7] [1, 2, 3, 4, 5, 6, 8] [.slice (some ⟨r_119, 0, none⟩) 2 2] (concat_ok _ _ _ _ (some ⟨b_7, of_8, none⟩) as_117 cap (cap - 2) (W.take 1) (W.drop 2) (by rw [List.length_take]; omega) (by rw [List.length_take]; omega) (by rw [List.length_drop]; omega) (by rw [show (W.take 1).length = 1 by rw [List.length_take]; omega]; exact hg_121) (fun w h => K.RowE.take (c := K.cStr) (d := []) (L := W) (hx w h) 1 (by omega)) x_115) ?_)
        clear hS; rintro _ _ w ⟨a_122, g_123, k_124, rfl, rfl, o_125⟩ hS
        replace hS : K.Sat w0 [g_120, gw, g_123, g_108, g_99, g_96, l_112, g_10, g_2, fr] w := hS
        refine ⟨.inl (hS.pick []), ?_⟩
        refine K.DW.l 7 rfl (by kernel_rfl) rfl (K.OW.gcall hS [2, 6] [0, 1, 3, 4, 5, 7, 8, 9] [.slice a_122 ((restW W).length) k_124, .slice a_110 (1 + 1 + 1) cap_111] (snumbers_ok _ _ _ _ _ (restW W) (([((0, 63) : Int × Int)] ++ [((0, 4294967295) : Int × Int)]) ++ [((0, 4294967295) : Int × Int)]) (by omega) (by first | decide | (simp; done) | (simp; omega)) (wl_getD fun x hx => hW x (restW_mem hx)) _ (fun w h => K.RowE.len (K.Own.rowE [] (h.ownr 0 rfl o_125) rfl (fun _ => rfl)) rfl) _ (fun w h => K.RowE.len (K.Own.rowE ((0, 0) : Int × Int) (h.ownr 0 rfl o_113c) ln_114 (fun _ => rfl)) ln_114)) ?_)
        clear hS; rintro _ _ w (⟨r_126, g_127, k_128, h_129, rfl, rfl, o_130⟩ | ⟨h_131, rfl, rfl⟩) hS
        ·
          replace hS : K.Sat w0 [g_123, l_112, g_127, g_120, gw, g_108, g_99, g_96, g_10, g_2, fr] w := hS
          refine ⟨.inl (hS.pick []), ?_⟩
          refine K.DW.l 8 rfl (by kernel_rfl) rfl (K.OW.q rfl (K.QR.k (v := .tuple #[.slice r_126 ((numsV (restW W) (([((0, 63) : Int × Int)] ++ [((0, 4294967295) : Int × Int)]) ++ [((0, 4294967295) : Int × Int)])).length) k_128, .int .i64 0]) (by kernel_rfl)) ?_)
          refine ⟨.inl (hS.pick []), ?_⟩
          refine K.DW.q 9 (by kernel_rfl) rfl rfl (by kernel_rfl) rfl (fun w hS => K.QR.k (v := .slice r_126 ((numsV (restW W) (([((0, 63) : Int × Int)] ++ [((0, 4294967295) : Int × Int)]) ++ [((0, 4294967295) : Int × Int)])).length) k_128) (by kernel_rfl)) (hS.pick []) ?_
          refine K.DW.q 10 (by kernel_rfl) rfl rfl (by kernel_rfl) rfl (fun w hS => K.QR.k (v := .int .i64 0) (by kernel_rfl)) (hS.pick []) ?_
          refine K.DW.l 11 rfl (by kernel_rfl) rfl (K.OW.q rfl (K.QR.k (v := .slice r_126 ((numsV (restW W) (([((0, 63) : Int × Int)] ++ [((0, 4294967295) : Int × Int)]) ++ [((0, 4294967295) : Int × Int)])).length) k_128) (by kernel_rfl)) ?_)
          refine ⟨.inl (hS.pick []), ?_⟩
          refine K.DW.l 12 rfl (by kernel_rfl) rfl (K.OW.q rfl (K.QR.k (v := .int .i64 0) (by kernel_rfl)) ?_)
          refine ⟨.inl (hS.pick []), ?_⟩
          refine K.DW.done (by kernel_rfl) ?_
          refine K.thn_normal ?_
          refine K.KW.seq ?_
          refine K.KW.seq ?_
          -- 15 :112
          refine K.KW.region ?_
          refine K.RW.qs [.int .i64 0, .bool false] (by kernel_rfl) ?_
          refine K.RW.nil ?_
          refine K.thn_normal ?_
          refine K.KW.ifF rfl ?_
          refine K.KW.skip ?_
          refine K.thn_normal ?_
          refine K.KW.seq ?_
          -- 17 :115
          have hlW : (numsV (restW W) (([((0, 63) : Int × Int)] ++ [((0, 4294967295) : Int × Int)]) ++ [((0, 4294967295) : Int × Int)])).length = 3 := by rw [numsV_len]; exact numsE_lens h_129
          obtain ⟨b_132, rfl⟩ := o_130.some_ (by have := o_130.le; omega)
          refine K.KW.region ?_
          refine K.RW.qs [.slice (some ⟨b_132, 0, none⟩) ((numsV (restW W) (([((0, 63) : Int × Int)] ++ [((0, 4294967295) : Int × Int)]) ++ [((0, 4294967295) : Int × Int)])).length) k_128] (by kernel_rfl) ?_
          refine K.RW.q rfl rfl (K.QR.ix 0 1 rfl rfl rfl Tryd.underlying78 (by kernel_rfl) (by omega) (by first | (simp; done) | omega | (simp; omega))) ?_
          refine K.RW.q rfl rfl (K.QR.ld1 (v := .int .i64 ((numsV (restW W) (([((0, 63) : Int × Int)] ++ [((0, 4294967295) : Int × Int)]) ++ [((0, 4294967295) : Int × Int)])).getD 0 0)) rfl rfl (by kernel_rfl) (K.Own.atS (c := cI64) (d := 0) (fun _ => rfl) (hS.ownr 2 rfl o_130) rfl 0 (by omega))) ?_
          refine K.RW.qs [.int .i64 (((K.ixS (W.getD 1 []) opNm.tail) : Int) + (1 : Int))] (by kernel_rfl) ?_
          refine K.RW.q rfl rfl (K.QR.bd [(0, .int .i64 (((K.ixS (W.getD 1 []) opNm.tail) : Int) + (1 : Int)))] [.int .i64 (((K.ixS (W.getD 1 []) opNm.tail) : Int) + (1 : Int)), .int .u32 0, .int .u32 0] rfl rfl (by kernel_rfl)) ?_
          refine K.RW.q rfl rfl (K.QR.bd [(0, .int .i64 1), (1, .int .i64 ((numsV (restW W) (([((0, 63) : Int × Int)] ++ [((0, 4294967295) : Int × Int)]) ++ [((0, 4294967295) : Int × Int)])).getD 0 0)), (3, .agg #[.int .i64 (((K.ixS (W.getD 1 []) opNm.tail) : Int) + (1 : Int)), .int .u32 0, .int .u32 0])] [.int .i64 1, .int .i64 ((numsV (restW W) (([((0, 63) : Int × Int)] ++ [((0, 4294967295) : Int × Int)]) ++ [((0, 4294967295) : Int × Int)])).getD 0 0), .int .i64 0, .int .i64 (((K.ixS (W.getD 1 []) opNm.tail) : Int) + (1 : Int)), .int .u32 0, .int .u32 0] rfl rfl (by kernel_rfl)) ?_
          refine K.RW.l rfl (K.OW.gnew 57 [.int .i64 0, .int .i64 0, .int .i64 0, .int .i64 0, .int .u32 0, .int .u32 0] hS ?_)
          clear hS; intro w r_134 g_135 hg_136 hS
          refine K.RW.l rfl (K.OW.gst 0 [.int .i64 1, .int .i64 ((numsV (restW W) (([((0, 63) : Int × Int)] ++ [((0, 4294967295) : Int × Int)]) ++ [((0, 4294967295) : Int × Int)])).getD 0 0), .int .i64 0, .int .i64 (((K.ixS (W.getD 1 []) opNm.tail) : Int) + (1 : Int)), .int .u32 0, .int .u32 0] [.int .i64 1, .int .i64 ((numsV (restW W) (([((0, 63) : Int × Int)] ++ [((0, 4294967295) : Int × Int)]) ++ [((0, 4294967295) : Int × Int)])).getD 0 0), .int .i64 0, .int .i64 (((K.ixS (W.getD 1 []) opNm.tail) : Int) + (1 : Int)), .int .u32 0, .int .u32 0] hS hg_136 ?_)
          clear hS; intro w g_137 hg_138 hS
          replace hS : K.Sat w0 [g_137, g_123, l_112, g_127, g_120, gw, g_108, g_99, g_96, g_10, g_2, fr] w := hS
          refine K.RW.nil ?_
          refine K.thn_normal ?_
          refine K.KW.seq ?_
          refine K.KW.seq ?_
          -- 18 :116
          refine K.KW.region ?_
          refine K.RW.qs [.bool true] (by kernel_rfl) ?_
          refine K.RW.nil ?_
          refine K.thn_normal ?_
          refine K.KW.ifT rfl ?_
          -- 19 :117
          refine K.KW.region ?_
          refine K.RW.qs [.slice (some ⟨b_132, 0, none⟩) ((numsV (restW W) (([((0, 63) : Int × Int)] ++ [((0, 4294967295) : Int × Int)]) ++ [((0, 4294967295) : Int × Int)])).length) k_128] (by kernel_rfl) ?_
          refine K.RW.q rfl rfl (K.QR.ix 1 1 rfl rfl rfl Tryd.underlying78 (by kernel_rfl) (by omega) (by first | (simp; done) | omega | (simp; omega))) ?_
          refine K.RW.q rfl rfl (K.QR.ld1 (v := .int .i64 ((numsV (restW W) (([((0, 63) : Int × Int)] ++ [((0, 4294967295) : Int × Int)]) ++ [((0, 4294967295) : Int × Int)])).getD 1 0)) rfl rfl (by kernel_rfl) (K.Own.atS (c := cI64) (d := 0) (fun _ => rfl) (hS.ownr 3 rfl o_130) rfl 1 (by omega))) ?_
          refine K.RW.qs [.int .u32 (IntKind.u32.wrap ((numsV (restW W) (([((0, 63) : Int × Int)] ++ [((0, 4294967295) : Int × Int)]) ++ [((0, 4294967295) : Int × Int)])).getD 1 0)), .pointer (some ⟨r_134, 3, none⟩), .pointer (some ⟨r_134, 4, none⟩)] (by kernel_rfl) ?_
          refine K.RW.l rfl (K.OW.gst 0 [.int .u32 (IntKind.u32.wrap ((numsV (restW W) (([((0, 63) : Int × Int)] ++ [((0, 4294967295) : Int × Int)]) ++ [((0, 4294967295) : Int × Int)])).getD 1 0))] [.int .i64 1, .int .i64 ((numsV (restW W) (([((0, 63) : Int × Int)] ++ [((0, 4294967295) : Int × Int)]) ++ [((0, 4294967295) : Int × Int)])).getD 0 0), .int .i64 0, .int .i64 (((K.ixS (W.getD 1 []) opNm.tail) : Int) + (1 : Int)), .int .u32 (IntKind.u32.wrap ((numsV (restW W) (([((0, 63) : Int × Int)] ++ [((0, 4294967295) : Int × Int)]) ++ [((0, 4294967295) : Int × Int)])).getD 1 0)), .int .u32 0] hS hg_138 ?_)
          clear hS; intro w g_139 hg_140 hS
          replace hS : K.Sat w0 [g_139, g_123, l_112, g_127, g_120, gw, g_108, g_99, g_96, g_10, g_2, fr] w := hS
          refine K.RW.nil ?_
          refine K.thn_normal ?_
          refine K.KW.seq ?_
          refine K.KW.seq ?_
          -- 20 :119
          refine K.KW.region ?_
          refine K.RW.qs [.bool true] (by kernel_rfl) ?_
          refine K.RW.nil ?_
          refine K.thn_normal ?_
          refine K.KW.ifT rfl ?_
          -- 21 :120
          refine K.KW.region ?_
          refine K.RW.qs [.slice (some ⟨b_132, 0, none⟩) ((numsV (restW W) (([((0, 63) : Int × Int)] ++ [((0, 4294967295) : Int × Int)]) ++ [((0, 4294967295) : Int × Int)])).length) k_128, .slice (some ⟨b_132, 0, none⟩) ((numsV (restW W) (([((0, 63) : Int × Int)] ++ [((0, 4294967295) : Int × Int)]) ++ [((0, 4294967295) : Int × Int)])).length) k_128] (by kernel_rfl) ?_
          refine K.RW.q rfl rfl (K.QR.len (P := Tryd.prog) rfl rfl Tryd.underlying78) ?_
          refine K.RW.q rfl rfl (K.QR.n64 (((((numsV (restW W) (([((0, 63) : Int × Int)] ++ [((0, 4294967295) : Int × Int)]) ++ [((0, 4294967295) : Int × Int)])).length : Nat) : Int) : Int) - (1 : Int)) (((numsV (restW W) (([((0, 63) : Int × Int)] ++ [((0, 4294967295) : Int × Int)]) ++ [((0, 4294967295) : Int × Int)])).length - 1 : Nat) : Int) (by kernel_rfl) (by omega)) ?_
          refine K.RW.q rfl rfl (K.QR.ix ((numsV (restW W) (([((0, 63) : Int × Int)] ++ [((0, 4294967295) : Int × Int)]) ++ [((0, 4294967295) : Int × Int)])).length - 1) 1 rfl rfl rfl Tryd.underlying78 (by kernel_rfl) (by omega) (by first | (simp; done) | omega | (simp; omega))) ?_
          refine K.RW.q rfl rfl (K.QR.ld1 (v := .int .i64 ((numsV (restW W) (([((0, 63) : Int × Int)] ++ [((0, 4294967295) : Int × Int)]) ++ [((0, 4294967295) : Int × Int)])).getD ((numsV (restW W) (([((0, 63) : Int × Int)] ++ [((0, 4294967295) : Int × Int)]) ++ [((0, 4294967295) : Int × Int)])).length - 1) 0)) rfl rfl (by kernel_rfl) (K.Own.atS (c := cI64) (d := 0) (fun _ => rfl) (hS.ownr 3 rfl o_130) rfl ((numsV (restW W) (([((0, 63) : Int × Int)] ++ [((0, 4294967295) : Int × Int)]) ++ [((0, 4294967295) : Int × Int)])).length - 1) (by omega))) ?_
          refine K.RW.qs [.int .u32 (IntKind.u32.wrap ((numsV (restW W) (([((0, 63) : Int × Int)] ++ [((0, 4294967295) : Int × Int)]) ++ [((0, 4294967295) : Int × Int)])).getD ((numsV (restW W) (([((0, 63) : Int × Int)] ++ [((0, 4294967295) : Int × Int)]) ++ [((0, 4294967295) : Int × Int)])).length - 1) 0)), .pointer (some ⟨r_134, 3, none⟩), .pointer (some ⟨r_134, 5, none⟩)] (by kernel_rfl) ?_
          refine K.RW.l rfl (K.OW.gst 0 [.int .u32 (IntKind.u32.wrap ((numsV (restW W) (([((0, 63) : Int × Int)] ++ [((0, 4294967295) : Int × Int)]) ++ [((0, 4294967295) : Int × Int)])).getD ((numsV (restW W) (([((0, 63) : Int × Int)] ++ [((0, 4294967295) : Int × Int)]) ++ [((0, 4294967295) : Int × Int)])).length - 1) 0))] [.int .i64 1, .int .i64 ((numsV (restW W) (([((0, 63) : Int × Int)] ++ [((0, 4294967295) : Int × Int)]) ++ [((0, 4294967295) : Int × Int)])).getD 0 0), .int .i64 0, .int .i64 (((K.ixS (W.getD 1 []) opNm.tail) : Int) + (1 : Int)), .int .u32 (IntKind.u32.wrap ((numsV (restW W) (([((0, 63) : Int × Int)] ++ [((0, 4294967295) : Int × Int)]) ++ [((0, 4294967295) : Int × Int)])).getD 1 0)), .int .u32 (IntKind.u32.wrap ((numsV (restW W) (([((0, 63) : Int × Int)] ++ [((0, 4294967295) : Int × Int)]) ++ [((0, 4294967295) : Int × Int)])).getD ((numsV (restW W) (([((0, 63) : Int × Int)] ++ [((0, 4294967295) : Int × Int)]) ++ [((0, 4294967295) : Int × Int)])).length - 1) 0))] hS hg_140 ?_)
          clear hS; intro w g_141 hg_142 hS
          replace hS : K.Sat w0 [g_141, g_123, l_112, g_127, g_120, gw, g_108, g_99, g_96, g_10, g_2, fr] w := hS
          refine K.RW.nil ?_
          refine K.thn_normal ?_
          refine K.KW.seq ?_
          -- 22 :122
          refine K.KW.region ?_
          refine K.RW.q rfl rfl (K.QR.ldN [.int .i64 1, .int .i64 ((numsV (restW W) (([((0, 63) : Int × Int)] ++ [((0, 4294967295) : Int × Int)]) ++ [((0, 4294967295) : Int × Int)])).getD 0 0), .int .i64 0, .int .i64 (((K.ixS (W.getD 1 []) opNm.tail) : Int) + (1 : Int)), .int .u32 (IntKind.u32.wrap ((numsV (restW W) (([((0, 63) : Int × Int)] ++ [((0, 4294967295) : Int × Int)]) ++ [((0, 4294967295) : Int × Int)])).getD 1 0)), .int .u32 (IntKind.u32.wrap ((numsV (restW W) (([((0, 63) : Int × Int)] ++ [((0, 4294967295) : Int × Int)]) ++ [((0, 4294967295) : Int × Int)])).getD ((numsV (restW W) (([((0, 63) : Int × Int)] ++ [((0, 4294967295) : Int × Int)]) ++ [((0, 4294967295) : Int × Int)])).length - 1) 0))] rfl rfl (by kernel_rfl) (by kernel_rfl) (K.cells (K.cl ((hS.blk 0 rfl hg_142).cell rfl) (K.cl ((hS.blk 0 rfl hg_142).cell rfl) (K.cl ((hS.blk 0 rfl hg_142).cell rfl) (K.cl ((hS.blk 0 rfl hg_142).cell rfl) (K.cl ((hS.blk 0 rfl hg_142).cell rfl) (K.cl ((hS.blk 0 rfl hg_142).cell rfl) K.cl0)))))))) ?_
          refine K.RW.l rfl (K.OW.gst 10 [.int .i64 1, .int .i64 ((numsV (restW W) (([((0, 63) : Int × Int)] ++ [((0, 4294967295) : Int × Int)]) ++ [((0, 4294967295) : Int × Int)])).getD 0 0), .int .i64 0, .int .i64 (((K.ixS (W.getD 1 []) opNm.tail) : Int) + (1 : Int)), .int .u32 (IntKind.u32.wrap ((numsV (restW W) (([((0, 63) : Int × Int)] ++ [((0, 4294967295) : Int × Int)]) ++ [((0, 4294967295) : Int × Int)])).getD 1 0)), .int .u32 (IntKind.u32.wrap ((numsV (restW W) (([((0, 63) : Int × Int)] ++ [((0, 4294967295) : Int × Int)]) ++ [((0, 4294967295) : Int × Int)])).getD ((numsV (restW W) (([((0, 63) : Int × Int)] ++ [((0, 4294967295) : Int × Int)]) ++ [((0, 4294967295) : Int × Int)])).length - 1) 0))] [.int .i64 1, .int .i64 ((numsV (restW W) (([((0, 63) : Int × Int)] ++ [((0, 4294967295) : Int × Int)]) ++ [((0, 4294967295) : Int × Int)])).getD 0 0), .int .i64 0, .int .i64 (((K.ixS (W.getD 1 []) opNm.tail) : Int) + (1 : Int)), .int .u32 (IntKind.u32.wrap ((numsV (restW W) (([((0, 63) : Int × Int)] ++ [((0, 4294967295) : Int × Int)]) ++ [((0, 4294967295) : Int × Int)])).getD 1 0)), .int .u32 (IntKind.u32.wrap ((numsV (restW W) (([((0, 63) : Int × Int)] ++ [((0, 4294967295) : Int × Int)]) ++ [((0, 4294967295) : Int × Int)])).getD ((numsV (restW W) (([((0, 63) : Int × Int)] ++ [((0, 4294967295) : Int × Int)]) ++ [((0, 4294967295) : Int × Int)])).length - 1) 0))] hS hg_3 ?_)
          clear hS; intro w g_143 hg_144 hS
          replace hS : K.Sat w0 [g_141, g_123, l_112, g_127, g_120, gw, g_108, g_99, g_96, g_10, g_143, fr] w := hS
          refine K.RW.qs [.int .i64 0] (by kernel_rfl) ?_
          refine K.RW.nil ?_
          refine K.thn_normal ?_
          refine K.KW.ret ?_
          have hb : bndK (kindW W) = _ := bnd6 h_20
          have hk : kindW W = 6 := h_20
          refine ⟨.inr rfl, rfl, (.tuple #[.agg #[.int .i64 1, .int .i64 ((numsV (restW W) (([((0, 63) : Int × Int)] ++ [((0, 4294967295) : Int × Int)]) ++ [((0, 4294967295) : Int × Int)])).getD 0 0), .int .i64 0, .int .i64 (((K.ixS (W.getD 1 []) opNm.tail) : Int) + (1 : Int)), .int .u32 (IntKind.u32.wrap ((numsV (restW W) (([((0, 63) : Int × Int)] ++ [((0, 4294967295) : Int × Int)]) ++ [((0, 4294967295) : Int × Int)])).getD 1 0)), .int .u32 (IntKind.u32.wrap ((numsV (restW W) (([((0, 63) : Int × Int)] ++ [((0, 4294967295) : Int × Int)]) ++ [((0, 4294967295) : Int × Int)])).getD ((numsV (restW W) (([((0, 63) : Int × Int)] ++ [((0, 4294967295) : Int × Int)]) ++ [((0, 4294967295) : Int × Int)])).length - 1) 0))], .int .i64 0]), K.resAt (rs := [.cell 2 57, .tmp 3]) [.agg #[.int .i64 1, .int .i64 ((numsV (restW W) (([((0, 63) : Int × Int)] ++ [((0, 4294967295) : Int × Int)]) ++ [((0, 4294967295) : Int × Int)])).getD 0 0), .int .i64 0, .int .i64 (((K.ixS (W.getD 1 []) opNm.tail) : Int) + (1 : Int)), .int .u32 (IntKind.u32.wrap ((numsV (restW W) (([((0, 63) : Int × Int)] ++ [((0, 4294967295) : Int × Int)]) ++ [((0, 4294967295) : Int × Int)])).getD 1 0)), .int .u32 (IntKind.u32.wrap ((numsV (restW W) (([((0, 63) : Int × Int)] ++ [((0, 4294967295) : Int × Int)]) ++ [((0, 4294967295) : Int × Int)])).getD ((numsV (restW W) (([((0, 63) : Int × Int)] ++ [((0, 4294967295) : Int × Int)]) ++ [((0, 4294967295) : Int × Int)])).length - 1) 0))], .int .i64 0] rfl ⟨⟨_, rfl, K.lvN [.int .i64 1, .int .i64 ((numsV (restW W) (([((0, 63) : Int × Int)] ++ [((0, 4294967295) : Int × Int)]) ++ [((0, 4294967295) : Int × Int)])).getD 0 0), .int .i64 0, .int .i64 (((K.ixS (W.getD 1 []) opNm.tail) : Int) + (1 : Int)), .int .u32 (IntKind.u32.wrap ((numsV (restW W) (([((0, 63) : Int × Int)] ++ [((0, 4294967295) : Int × Int)]) ++ [((0, 4294967295) : Int × Int)])).getD 1 0)), .int .u32 (IntKind.u32.wrap ((numsV (restW W) (([((0, 63) : Int × Int)] ++ [((0, 4294967295) : Int × Int)]) ++ [((0, 4294967295) : Int × Int)])).getD ((numsV (restW W) (([((0, 63) : Int × Int)] ++ [((0, 4294967295) : Int × Int)]) ++ [((0, 4294967295) : Int × Int)])).length - 1) 0))] (by kernel_rfl) (by kernel_rfl) (K.cells (K.cl ((hS.blk 10 rfl hg_144).cell rfl) (K.cl ((hS.blk 10 rfl hg_144).cell rfl) (K.cl ((hS.blk 10 rfl hg_144).cell rfl) (K.cl ((hS.blk 10 rfl hg_144).cell rfl) (K.cl ((hS.blk 10 rfl hg_144).cell rfl) (K.cl ((hS.blk 10 rfl hg_144).cell rfl) K.cl0)))))))⟩, rfl, trivial⟩, [gw], ?_, hS.pick [5, 11]⟩
          exact ⟨rfl, by rw [callW_ok (by omega) (by unfold kindW; omega) (by rw [hb]; exact h_129)]; unfold callA1; rw [hb, if_pos (by omega), if_pos (by omega)]; rfl⟩
        ·
          replace hS : K.Sat w0 [g_123, l_112, g_120, gw, g_108, g_99, g_96, g_10, g_2, fr] w := hS
          refine ⟨.inl (hS.pick []), ?_⟩
          refine K.DW.l 8 rfl (by kernel_rfl) rfl (K.OW.q rfl (K.QR.k (v := .tuple #[.slice none 0 0, .int .i64 (numsE (restW W) (([((0, 63) : Int × Int)] ++ [((0, 4294967295) : Int × Int)]) ++ [((0, 4294967295) : Int × Int)]))]) (by kernel_rfl)) ?_)
          refine ⟨.inl (hS.pick []), ?_⟩
          refine K.DW.q 9 (by kernel_rfl) rfl rfl (by kernel_rfl) rfl (fun w hS => K.QR.k (v := .slice none 0 0) (by kernel_rfl)) (hS.pick []) ?_
          refine K.DW.q 10 (by kernel_rfl) rfl rfl (by kernel_rfl) rfl (fun w hS => K.QR.k (v := .int .i64 (numsE (restW W) (([((0, 63) : Int × Int)] ++ [((0, 4294967295) : Int × Int)]) ++ [((0, 4294967295) : Int × Int)]))) (by kernel_rfl)) (hS.pick []) ?_
          refine K.DW.l 11 rfl (by kernel_rfl) rfl (K.OW.q rfl (K.QR.k (v := .slice none 0 0) (by kernel_rfl)) ?_)
          refine ⟨.inl (hS.pick []), ?_⟩
          refine K.DW.l 12 rfl (by kernel_rfl) rfl (K.OW.q rfl (K.QR.k (v := .int .i64 (numsE (restW W) (([((0, 63) : Int × Int)] ++ [((0, 4294967295) : Int × Int)]) ++ [((0, 4294967295) : Int × Int)]))) (by kernel_rfl)) ?_)
          refine ⟨.inl (hS.pick []), ?_⟩
          refine K.DW.done (by kernel_rfl) ?_
          refine K.thn_normal ?_
          refine K.KW.seq ?_
          refine K.KW.seq ?_
          -- 15 :112
          refine K.KW.region ?_
          refine K.RW.qs [.int .i64 (numsE (restW W) (([((0, 63) : Int × Int)] ++ [((0, 4294967295) : Int × Int)]) ++ [((0, 4294967295) : Int × Int)]))] (by kernel_rfl) ?_
          refine K.RW.q rfl rfl (K.QR.nice (v := .bool (((numsE (restW W) (([((0, 63) : Int × Int)] ++ [((0, 4294967295) : Int × Int)]) ++ [((0, 4294967295) : Int × Int)])) : Int) != (0 : Int))) (by kernel_rfl) (congrArg Value.bool (bne_iff_ne.2 (by omega)))) ?_
          refine K.RW.nil ?_
          refine K.thn_normal ?_
          refine K.KW.ifT rfl ?_
          refine K.KW.seq ?_
          -- 16 :113
          refine K.KW.region ?_
          refine K.RW.q rfl rfl (K.QR.bd [] [.int .i64 0, .int .i64 0, .int .i64 0, .int .i64 0, .int .u32 0, .int .u32 0] rfl rfl (by kernel_rfl)) ?_
          refine K.RW.qs [.int .i64 (numsE (restW W) (([((0, 63) : Int × Int)] ++ [((0, 4294967295) : Int × Int)]) ++ [((0, 4294967295) : Int × Int)]))] (by kernel_rfl) ?_
          refine K.RW.l rfl (K.OW.gst 8 [.int .i64 0, .int .i64 0, .int .i64 0, .int .i64 0, .int .u32 0, .int .u32 0] [.int .i64 0, .int .i64 0, .int .i64 0, .int .i64 0, .int .u32 0, .int .u32 0] hS hg_3 ?_)
          clear hS; intro w g_145 hg_146 hS
          replace hS : K.Sat w0 [g_123, l_112, g_120, gw, g_108, g_99, g_96, g_10, g_145, fr] w := hS
          refine K.RW.qs [.int .i64 (numsE (restW W) (([((0, 63) : Int × Int)] ++ [((0, 4294967295) : Int × Int)]) ++ [((0, 4294967295) : Int × Int)]))] (by kernel_rfl) ?_
          refine K.RW.nil ?_
          refine K.thn_normal ?_
          refine K.KW.ret ?_
          refine K.thn_ret ?_
          have hb : bndK (kindW W) = _ := bnd6 h_20
          refine ⟨.inr rfl, rfl, (.tuple #[.agg #[.int .i64 0, .int .i64 0, .int .i64 0, .int .i64 0, .int .u32 0, .int .u32 0], .int .i64 (numsE (restW W) (([((0, 63) : Int × Int)] ++ [((0, 4294967295) : Int × Int)]) ++ [((0, 4294967295) : Int × Int)]))]), K.resAt (rs := [.cell 2 57, .tmp 3]) [.agg #[.int .i64 0, .int .i64 0, .int .i64 0, .int .i64 0, .int .u32 0, .int .u32 0], .int .i64 (numsE (restW W) (([((0, 63) : Int × Int)] ++ [((0, 4294967295) : Int × Int)]) ++ [((0, 4294967295) : Int × Int)]))] rfl ⟨⟨_, rfl, K.lvN [.int .i64 0, .int .i64 0, .int .i64 0, .int .i64 0, .int .u32 0, .int .u32 0] (by kernel_rfl) (by kernel_rfl) (K.cells (K.cl ((hS.blk 8 rfl hg_146).cell rfl) (K.cl ((hS.blk 8 rfl hg_146).cell rfl) (K.cl ((hS.blk 8 rfl hg_146).cell rfl) (K.cl ((hS.blk 8 rfl hg_146).cell rfl) (K.cl ((hS.blk 8 rfl hg_146).cell rfl) (K.cl ((hS.blk 8 rfl hg_146).cell rfl) K.cl0)))))))⟩, rfl, trivial⟩, [gw], ?_, hS.pick [3, 9]⟩
          exact ⟨rfl, by rw [callW_bad (by omega) (by unfold kindW; omega) (by rw [hb]; exact h_131), hb]; rfl⟩
      ·
        replace hS : K.Sat w0 [g_16, g_10, g_2, gw, fr] w := hS
        refine K.RW.qs [.tuple #[.bool true, .bool false], .bool true, .bool false, .bool true, .bool false] (by kernel_rfl) ?_
        refine K.RW.nil ?_
        refine K.thn_normal ?_
        refine K.KW.seq ?_
        refine K.KW.seq ?_
        -- 8 :106
        refine K.KW.region ?_
        refine K.RW.qs [.bool true, .bool false] (by kernel_rfl) ?_
        refine K.RW.l rfl (K.OW.gbs [(0, .bool true), (1, .bool false)] [.bool true, .bool false] hS (fun w => K.bs_run (P := Tryd.prog) w 142 4 2 _ _ Tryd.underlying142 (by kernel_rfl)) ?_)
        clear hS; intro w r_147 g_148 hg_149 hS
        refine K.RW.q rfl rfl (K.QR.len (P := Tryd.prog) rfl rfl Tryd.underlying142) ?_
        refine K.RW.qs [.int .i64 0] (by kernel_rfl) ?_
        refine K.RW.nil ?_
        refine K.thn_normal ?_
        refine K.KW.block ?_
        refine K.KW.unr 2 ?_
        refine K.Unr.succ ?_
        refine K.KW.seq ?_
        -- 9 :106
        refine K.KW.region ?_
        refine K.RW.qs [.bool true] (by kernel_rfl) ?_
        refine K.RW.nil ?_
        refine K.thn_normal ?_
        refine K.KW.seq ?_
        refine K.KW.ifT rfl ?_
        refine K.KW.skip ?_
        refine K.thn_normal ?_
        refine K.KW.seq ?_
        refine K.KW.block ?_
        refine K.KW.seq ?_
        -- 10 :106
        refine K.KW.region ?_
        refine K.RW.q rfl rfl (K.QR.ix 0 1 rfl rfl rfl Tryd.underlying142 (by kernel_rfl) (by omega) (by first | (simp; done) | omega | (simp; omega))) ?_
        refine K.RW.q rfl rfl (K.QR.ld1 (v := .bool true) rfl rfl (by kernel_rfl) ((hS.blk 0 rfl hg_149).cell rfl)) ?_
        refine K.RW.qs [.bool true] (by kernel_rfl) ?_
        refine K.RW.nil ?_
        refine K.thn_normal ?_
        refine K.KW.seq ?_
        -- 11 :107
        refine K.KW.region ?_
        refine K.RW.qs [.bool true] (by kernel_rfl) ?_
        refine K.RW.nil ?_
        refine K.thn_normal ?_
        refine K.KW.ifT rfl ?_
        -- 12 :108
        refine K.KW.region ?_
        refine K.RW.qs [.slice (some ⟨r_15, 0, none⟩) 1 1] (by kernel_rfl) ?_
        refine K.RW.q rfl rfl (K.QR.bd [(0, .int .i64 0), (1, .int .i64 4294967295)] [.int .i64 0, .int .i64 4294967295] rfl rfl (by kernel_rfl)) ?_
        refine K.RW.l rfl (K.OW.gbs [(0, .agg #[.int .i64 0, .int .i64 4294967295])] [.int .i64 0, .int .i64 4294967295] hS (fun w => K.bs_run (P := Tryd.prog) w 141 136 1 _ _ Tryd.underlying141 (by kernel_rfl)) ?_)
        clear hS; intro w r_150 g_151 hg_152 hS
        have o_153 : K.OwnG g_16 136 2 (some ⟨r_15, 0, none⟩) 1 1 (([((0, 63) : Int × Int)]).flatMap cRg) := K.OwnG.ofPt hg_17 1 (by unfold maxLen; omega) rfl
        refine K.RW.l rfl (K.OW.gapp (P := Tryd.prog) (xs := ([((0, 63) : Int × Int)]).flatMap cRg) (z := .agg #[.int .i64 0, .int .i64 0]) (size := 2) (bytes := 16) 2 [.int .i64 0, .int .i64 4294967295] hS o_153 ?_ (fun j u hj => (by rw [Nat.zero_add]; exact (hS.blk 0 rfl hg_152).cell hj)) (K.one_cells (by rfl)) (by rfl) Tryd.underlying141 (by kernel_rfl) rfl (by decide) (by unfold maxLen; omega) (by omega))
        clear hS; intro a_154 cap_155 w l_156 o_157 hS
        have ln_158 : (([((0, 63) : Int × Int)] ++ [((0, 4294967295) : Int × Int)])).length = 1 + 1 := by rw [List.length_append]; rfl
        have o_157c := K.OwnG.cast (xs' := (([((0, 63) : Int × Int)] ++ [((0, 4294967295) : Int × Int)])).flatMap cRg) o_157 rfl (K.fl_snoc cRg [((0, 63) : Int × Int)] ((0, 4294967295) : Int × Int) rfl)
        replace hS : K.Sat w0 [g_151, g_148, l_156, g_10, g_2, gw, fr] w := hS
        refine K.RW.qs [.slice a_154 (1 + 1) cap_155] (by kernel_rfl) ?_
        refine K.RW.nil ?_
        refine K.blk_normal ?_
        refine K.thn_normal ?_
        -- 13 :106
        refine K.KW.region ?_
        refine K.RW.qs [.int .i64 1, .int .i64 1] (by kernel_rfl) ?_
        refine K.RW.nil ?_
        refine K.thn_normal ?_
        refine K.Unr.succ ?_
        refine K.KW.seq ?_
        -- 9 :106
        refine K.KW.region ?_
        refine K.RW.qs [.bool true] (by kernel_rfl) ?_
        refine K.RW.nil ?_
        refine K.thn_normal ?_
        refine K.KW.seq ?_
        refine K.KW.ifT rfl ?_
        refine K.KW.skip ?_
        refine K.thn_normal ?_
        refine K.KW.seq ?_
        refine K.KW.block ?_
        refine K.KW.seq ?_
        -- 10 :106
        refine K.KW.region ?_
        refine K.RW.q rfl rfl (K.QR.ix 1 1 rfl rfl rfl Tryd.underlying142 (by kernel_rfl) (by omega) (by first | (simp; done) | omega | (simp; omega))) ?_
        refine K.RW.q rfl rfl (K.QR.ld1 (v := .bool false) rfl rfl (by kernel_rfl) ((hS.blk 1 rfl hg_149).cell rfl)) ?_
        refine K.RW.qs [.bool false] (by kernel_rfl) ?_
        refine K.RW.nil ?_
        refine K.thn_normal ?_
        refine K.KW.seq ?_
        -- 11 :107
        refine K.KW.region ?_
        refine K.RW.qs [.bool false] (by kernel_rfl) ?_
        refine K.RW.nil ?_
        refine K.thn_normal ?_
        refine K.KW.ifF rfl ?_
        refine K.KW.skip ?_
        refine K.blk_normal ?_
        refine K.thn_normal ?_
        -- 13 :106
        refine K.KW.region ?_
        refine K.RW.qs [.int .i64 2, .int .i64 2] (by kernel_rfl) ?_
        refine K.RW.nil ?_
        refine K.thn_normal ?_
        refine K.Unr.zero ?_
        refine K.KW.seq ?_
        -- 9 :106
        refine K.KW.region ?_
        refine K.RW.qs [.bool false] (by kernel_rfl) ?_
        refine K.RW.nil ?_
        refine K.thn_normal ?_
        refine K.KW.seq ?_
        refine K.KW.ifF rfl ?_
        refine K.KW.exit ?_
        refine K.thn_exit ?_
        refine K.thn_exit ?_
        refine K.blk_hit ?_
        refine K.thn_normal ?_
        refine K.KW.seq ?_
        -- 14 :111
        have hrl := restW_len W
        refine K.KW.gdrawn [] hS (by kernel_rfl) ?_
        clear hS; intro w hS
        refine K.DW.q 0 (by kernel_rfl) rfl rfl (by kernel_rfl) rfl (fun w hS => K.QR.k (v := .slice (some ⟨b_7, of_8, none⟩) W.length cap) (by kernel_rfl)) (hS.pick []) ?_
        refine K.DW.q 1 (by kernel_rfl) rfl rfl (by kernel_rfl) rfl (fun w hS => K.QR.slHi (size := 1) 1 rfl rfl rfl Tryd.underlying68 (by kernel_rfl) (by omega)) (hS.pick []) ?_
        refine K.DW.q 2 (by kernel_rfl) rfl rfl (by kernel_rfl) rfl (fun w hS => K.QR.k (v := .slice (some ⟨b_7, of_8, none⟩) W.length cap) (by kernel_rfl)) (hS.pick []) ?_
        obtain ⟨as_161, has_162⟩ : ∃ q, q = K.shift (some ⟨b_7, of_8, none⟩) cap 2 1 := ⟨_, rfl⟩
        have x_159 : ∀ w, K.Sat w0 [gw] w → K.RowE w as_161 (W.drop 2).length 1 (fun i => K.cStr ((W.drop 2).getD i [])) := fun w h => has_162 ▸ K.RowE.drop (c := K.cStr) (d := []) (L := W) (cap := cap) (hx w h) 2 (by first | omega | (simp; done) | (simp; omega)) ((by omega))
        have n_160 : (W.drop 2).length = W.length - 2 := List.length_drop
        refine K.DW.q 3 (by kernel_rfl) rfl rfl (by kernel_rfl) rfl (fun w hS => K.QR.turn (v' := .slice as_161 ((W.drop 2).length) (cap - 2)) (K.QR.slLo (size := 1) (m := W.length) (k := ((W.drop 2).length)) 2 rfl rfl rfl Tryd.underlying68 (by kernel_rfl) (by first | omega | (simp; done) | (simp; omega)) (by first | omega | (simp; done) | (simp; omega))) (by rw [has_162])) (hS.pick []) ?_
        refine K.DW.q 6 (by kernel_rfl) rfl rfl (by kernel_rfl) rfl (fun w hS => K.QR.k (v := .slice a_154 (1 + 1) cap_155) (by kernel_rfl)) (hS.pick []) ?_
        refine K.DW.l 4 rfl (by kernel_rfl) rfl (K.OW.gbs [(0, .slice (some ⟨b_7, of_8, none⟩) 1 cap), (1, .slice as_161 ((W.drop 2).length) (cap - 2))] [.slice (some ⟨b_7, of_8, none⟩) 1 cap, .slice as_161 ((W.drop 2).length) (cap - 2)] hS (fun w => K.bs_run (P := Tryd.prog) w 150 68 2 _ _ Tryd.underlying150 (by kernel_rfl)) ?_)
        clear hS; intro w r_163 g_164 hg_165 hS
        refine ⟨.inl (hS.pick []), ?_⟩
        refine K.DW.l 5 rfl (by kernel_rfl) rfl (K.OW.gcall hS [0, 6] [1, 2, 3, 4, 5, 7] [.slice (some ⟨r_163, 0, none⟩) 2 2] (concat_ok _ _ _ _ (some ⟨b_7, of_8, none⟩) as_161 cap (cap - 2) (W.take 1) (W.drop 2) (by rw [List.length_take]; omega) (by rw [List.length_take]; omega) (by rw [List.length_drop]; omega) (by rw [show (W.take 1).length = 1 by rw [List.length_take]; omega]; exact hg_165) (fun w h => K.RowE.take (c := K.cStr) (d := []) (L := W) (hx w h) 1 (by omega)) x_159) ?_)
        clear hS; rintro _ _ w ⟨a_166, g_167, k_168, rfl, rfl, o_169⟩ hS
        replace hS : K.Sat w0 [g_164, gw, g_167, g_151, g_148, l_156, g_10, g_2, fr] w := hS
        refine ⟨.inl (hS.pick []), ?_⟩
        refine K.DW.l 7 rfl (by kernel_rfl) rfl (K.OW.gcall hS [2, 5] [0, 1, 3, 4, 6, 7, 8] [.slice a_166 ((restW W).length) k_168, .slice a_154 (1 + 1) cap_155] (snumbers_ok _ _ _ _ _ (restW W) ([((0, 63) : Int × Int)] ++ [((0, 4294967295) : Int × Int)]) (by omega) (by first | decide | (simp; done) | (simp; omega)) (wl_getD fun x hx => hW x (restW_mem hx)) _ (fun w h => K.RowE.len (K.Own.rowE [] (h.ownr 0 rfl o_169) rfl (fun _ => rfl)) rfl) _ (fun w h => K.RowE.len (K.Own.rowE ((0, 0) : Int × Int) (h.ownr 0 rfl o_157c) ln_158 (fun _ => rfl)) ln_158)) ?_)
        clear hS; rintro _ _ w (⟨r_170, g_171, k_172, h_173, rfl, rfl, o_174⟩ | ⟨h_175, rfl, rfl⟩) hS
        ·
          replace hS : K.Sat w0 [g_167, l_156, g_171, g_164, gw, g_151, g_148, g_10, g_2, fr] w := hS
          refine ⟨.inl (hS.pick []), ?_⟩
          refine K.DW.l 8 rfl (by kernel_rfl) rfl (K.OW.q rfl (K.QR.k (v := .tuple #[.slice r_170 ((numsV (restW W) ([((0, 63) : Int × Int)] ++ [((0, 4294967295) : Int × Int)])).length) k_172, .int .i64 0]) (by kernel_rfl)) ?_)
          refine ⟨.inl (hS.pick []), ?_⟩
          refine K.DW.q 9 (by kernel_rfl) rfl rfl (by kernel_rfl) rfl (fun w hS => K.QR.k (v := .slice r_170 ((numsV (restW W) ([((0, 63) : Int × Int)] ++ [((0, 4294967295) : Int × Int)])).length) k_172) (by kernel_rfl)) (hS.pick []) ?_
          refine K.DW.q 10 (by kernel_rfl) rfl rfl (by kernel_rfl) rfl (fun w hS => K.QR.k (v := .int .i64 0) (by kernel_rfl)) (hS.pick []) ?_
          refine K.DW.l 11 rfl (by kernel_rfl) rfl (K.OW.q rfl (K.QR.k (v := .slice r_170 ((numsV (restW W) ([((0, 63) : Int × Int)] ++ [((0, 4294967295) : Int × Int)])).length) k_172) (by kernel_rfl)) ?_)
          refine ⟨.inl (hS.pick []), ?_⟩
          refine K.DW.l 12 rfl (by kernel_rfl) rfl (K.OW.q rfl (K.QR.k (v := .int .i64 0) (by kernel_rfl)) ?_)
          refine ⟨.inl (hS.pick []), ?_⟩
          refine K.DW.done (by kernel_rfl) ?_
          refine K.thn_normal ?_
          refine K.KW.seq ?_
          refine K.KW.seq ?_
          -- 15 :112
          refine K.KW.region ?_
          refine K.RW.qs [.int .i64 0, .bool false] (by kernel_rfl) ?_
          refine K.RW.nil ?_
          refine K.thn_normal ?_
          refine K.KW.ifF rfl ?_
          refine K.KW.skip ?_
          refine K.thn_normal ?_
          refine K.KW.seq ?_
          -- 17 :115
          have hlW : (numsV (restW W) ([((0, 63) : Int × Int)] ++ [((0, 4294967295) : Int × Int)])).length = 2 := by rw [numsV_len]; exact numsE_lens h_173
          obtain ⟨b_176, rfl⟩ := o_174.some_ (by have := o_174.le; omega)
          refine K.KW.region ?_
          refine K.RW.qs [.slice (some ⟨b_176, 0, none⟩) ((numsV (restW W) ([((0, 63) : Int × Int)] ++ [((0, 4294967295) : Int × Int)])).length) k_172] (by kernel_rfl) ?_
          refine K.RW.q rfl rfl (K.QR.ix 0 1 rfl rfl rfl Tryd.underlying78 (by kernel_rfl) (by omega) (by first | (simp; done) | omega | (simp; omega))) ?_
          refine K.RW.q rfl rfl (K.QR.ld1 (v := .int .i64 ((numsV (restW W) ([((0, 63) : Int × Int)] ++ [((0, 4294967295) : Int × Int)])).getD 0 0)) rfl rfl (by kernel_rfl) (K.Own.atS (c := cI64) (d := 0) (fun _ => rfl) (hS.ownr 2 rfl o_174) rfl 0 (by omega))) ?_
          refine K.RW.qs [.int .i64 (((K.ixS (W.getD 1 []) opNm.tail) : Int) + (1 : Int))] (by kernel_rfl) ?_
          refine K.RW.q rfl rfl (K.QR.bd [(0, .int .i64 (((K.ixS (W.getD 1 []) opNm.tail) : Int) + (1 : Int)))] [.int .i64 (((K.ixS (W.getD 1 []) opNm.tail) : Int) + (1 : Int)), .int .u32 0, .int .u32 0] rfl rfl (by kernel_rfl)) ?_
          refine K.RW.q rfl rfl (K.QR.bd [(0, .int .i64 1), (1, .int .i64 ((numsV (restW W) ([((0, 63) : Int × Int)] ++ [((0, 4294967295) : Int × Int)])).getD 0 0)), (3, .agg #[.int .i64 (((K.ixS (W.getD 1 []) opNm.tail) : Int) + (1 : Int)), .int .u32 0, .int .u32 0])] [.int .i64 1, .int .i64 ((numsV (restW W) ([((0, 63) : Int × Int)] ++ [((0, 4294967295) : Int × Int)])).getD 0 0), .int .i64 0, .int .i64 (((K.ixS (W.getD 1 []) opNm.tail) : Int) + (1 : Int)), .int .u32 0, .int .u32 0] rfl rfl (by kernel_rfl)) ?_
          refine K.RW.l rfl (K.OW.gnew 57 [.int .i64 0, .int .i64 0, .int .i64 0, .int .i64 0, .int .u32 0, .int .u32 0] hS ?_)
          clear hS; intro w r_178 g_179 hg_180 hS
          refine K.RW.l rfl (K.OW.gst 0 [.int .i64 1, .int .i64 ((numsV (restW W) ([((0, 63) : Int × Int)] ++ [((0, 4294967295) : Int × Int)])).getD 0 0), .int .i64 0, .int .i64 (((K.ixS (W.getD 1 []) opNm.tail) : Int) + (1 : Int)), .int .u32 0, .int .u32 0] [.int .i64 1, .int .i64 ((numsV (restW W) ([((0, 63) : Int × Int)] ++ [((0, 4294967295) : Int × Int)])).getD 0 0), .int .i64 0, .int .i64 (((K.ixS (W.getD 1 []) opNm.tail) : Int) + (1 : Int)), .int .u32 0, .int .u32 0] hS hg_180 ?_)
          clear hS; intro w g_181 hg_182 hS
          replace hS : K.Sat w0 [g_181, g_167, l_156, g_171, g_164, gw, g_151, g_148, g_10, g_2, fr] w := hS
          refine K.RW.nil ?_
          refine K.thn_normal ?_
          refine K.KW.seq ?_
          refine K.KW.seq ?_
          -- 18 :116
          refine K.KW.region ?_
          refine K.RW.qs [.bool true] (by kernel_rfl) ?_
          refine K.RW.nil ?_
          refine K.thn_normal ?_
          refine K.KW.ifT rfl ?_
          -- 19 :117
          refine K.KW.region ?_
          refine K.RW.qs [.slice (some ⟨b_176, 0, none⟩) ((numsV (restW W) ([((0, 63) : Int × Int)] ++ [((0, 4294967295) : Int × Int)])).length) k_172] (by kernel_rfl) ?_
          refine K.RW.q rfl rfl (K.QR.ix 1 1 rfl rfl rfl Tryd.underlying78 (by kernel_rfl) (by omega) (by first | (simp; done) | omega | (simp; omega))) ?_
          refine K.RW.q rfl rfl (K.QR.ld1 (v := .int .i64 ((numsV (restW W) ([((0, 63) : Int × Int)] ++ [((0, 4294967295) : Int × Int)])).getD 1 0)) rfl rfl (by kernel_rfl) (K.Own.atS (c := cI64) (d := 0) (fun _ => rfl) (hS.ownr 3 rfl o_174) rfl 1 (by omega))) ?_
          refine K.RW.qs [.int .u32 (IntKind.u32.wrap ((numsV (restW W) ([((0, 63) : Int × Int)] ++ [((0, 4294967295) : Int × Int)])).getD 1 0)), .pointer (some ⟨r_178, 3, none⟩), .pointer (some ⟨r_178, 4, none⟩)] (by kernel_rfl) ?_
          refine K.RW.l rfl (K.OW.gst 0 [.int .u32 (IntKind.u32.wrap ((numsV (restW W) ([((0, 63) : Int × Int)] ++ [((0, 4294967295) : Int × Int)])).getD 1 0))] [.int .i64 1, .int .i64 ((numsV (restW W) ([((0, 63) : Int × Int)] ++ [((0, 4294967295) : Int × Int)])).getD 0 0), .int .i64 0, .int .i64 (((K.ixS (W.getD 1 []) opNm.tail) : Int) + (1 : Int)), .int .u32 (IntKind.u32.wrap ((numsV (restW W) ([((0, 63) : Int × Int)] ++ [((0, 4294967295) : Int × Int)])).getD 1 0)), .int .u32 0] hS hg_182 ?_)
          clear hS; intro w g_183 hg_184 hS
          replace hS : K.Sat w0 [g_183, g_167, l_156, g_171, g_164, gw, g_151, g_148, g_10, g_2, fr] w := hS
          refine K.RW.nil ?_
          refine K.thn_normal ?_
          refine K.KW.seq ?_
          refine K.KW.seq ?_
          -- 20 :119
          refine K.KW.region ?_
          refine K.RW.qs [.bool false] (by kernel_rfl) ?_
          refine K.RW.nil ?_
          refine K.thn_normal ?_
          refine K.KW.ifF rfl ?_
          refine K.KW.skip ?_
          refine K.thn_normal ?_
          refine K.KW.seq ?_
          -- 22 :122
          refine K.KW.region ?_
          refine K.RW.q rfl rfl (K.QR.ldN [.int .i64 1, .int .i64 ((numsV (restW W) ([((0, 63) : Int × Int)] ++ [((0, 4294967295) : Int × Int)])).getD 0 0), .int .i64 0, .int .i64 (((K.ixS (W.getD 1 []) opNm.tail) : Int) + (1 : Int)), .int .u32 (IntKind.u32.wrap ((numsV (restW W) ([((0, 63) : Int × Int)] ++ [((0, 4294967295) : Int × Int)])).getD 1 0)), .int .u32 0] rfl rfl (by kernel_rfl) (by kernel_rfl) (K.cells (K.cl ((hS.blk 0 rfl hg_184).cell rfl) (K.cl ((hS.blk 0 rfl hg_184).cell rfl) (K.cl ((hS.blk 0 rfl hg_184).cell rfl) (K.cl ((hS.blk 0 rfl hg_184).cell rfl) (K.cl ((hS.blk 0 rfl hg_184).cell rfl) (K.cl ((hS.blk 0 rfl hg_184).cell rfl) K.cl0)))))))) ?_
          refine K.RW.l rfl (K.OW.gst 9 [.int .i64 1, .int .i64 ((numsV (restW W) ([((0, 63) : Int × Int)] ++ [((0, 4294967295) : Int × Int)])).getD 0 0), .int .i64 0, .int .i64 (((K.ixS (W.getD 1 []) opNm.tail) : Int) + (1 : Int)), .int .u32 (IntKind.u32.wrap ((numsV (restW W) ([((0, 63) : Int × Int)] ++ [((0, 4294967295) : Int × Int)])).getD 1 0)), .int .u32 0] [.int .i64 1, .int .i64 ((numsV (restW W) ([((0, 63) : Int × Int)] ++ [((0, 4294967295) : Int × Int)])).getD 0 0), .int .i64 0, .int .i64 (((K.ixS (W.getD 1 []) opNm.tail) : Int) + (1 : Int)), .int .u32 (IntKind.u32.wrap ((numsV (restW W) ([((0, 63) : Int × Int)] ++ [((0, 4294967295) : Int × Int)])).getD 1 0)), .int .u32 0] hS hg_3 ?_)
          clear hS; intro w g_185 hg_186 hS
          replace hS : K.Sat w0 [g_183, g_167, l_156, g_171, g_164, gw, g_151, g_148, g_10, g_185, fr] w := hS
          refine K.RW.qs [.int .i64 0] (by kernel_rfl) ?_
          refine K.RW.nil ?_
          refine K.thn_normal ?_
          refine K.KW.ret ?_
          have hb : bndK (kindW W) = _ := bndo h_21
          have hk : ¬ kindW W = 1 ∧ ¬ kindW W = 2 ∧ ¬ kindW W = 6 := h_21
          refine ⟨.inr rfl, rfl, (.tuple #[.agg #[.int .i64 1, .int .i64 ((numsV (restW W) ([((0, 63) : Int × Int)] ++ [((0, 4294967295) : Int × Int)])).getD 0 0), .int .i64 0, .int .i64 (((K.ixS (W.getD 1 []) opNm.tail) : Int) + (1 : Int)), .int .u32 (IntKind.u32.wrap ((numsV (restW W) ([((0, 63) : Int × Int)] ++ [((0, 4294967295) : Int × Int)])).getD 1 0)), .int .u32 0], .int .i64 0]), K.resAt (rs := [.cell 2 57, .tmp 3]) [.agg #[.int .i64 1, .int .i64 ((numsV (restW W) ([((0, 63) : Int × Int)] ++ [((0, 4294967295) : Int × Int)])).getD 0 0), .int .i64 0, .int .i64 (((K.ixS (W.getD 1 []) opNm.tail) : Int) + (1 : Int)), .int .u32 (IntKind.u32.wrap ((numsV (restW W) ([((0, 63) : Int × Int)] ++ [((0, 4294967295) : Int × Int)])).getD 1 0)), .int .u32 0], .int .i64 0] rfl ⟨⟨_, rfl, K.lvN [.int .i64 1, .int .i64 ((numsV (restW W) ([((0, 63) : Int × Int)] ++ [((0, 4294967295) : Int × Int)])).getD 0 0), .int .i64 0, .int .i64 (((K.ixS (W.getD 1 []) opNm.tail) : Int) + (1 : Int)), .int .u32 (IntKind.u32.wrap ((numsV (restW W) ([((0, 63) : Int × Int)] ++ [((0, 4294967295) : Int × Int)])).getD 1 0)), .int .u32 0] (by kernel_rfl) (by kernel_rfl) (K.cells (K.cl ((hS.blk 9 rfl hg_186).cell rfl) (K.cl ((hS.blk 9 rfl hg_186).cell rfl) (K.cl ((hS.blk 9 rfl hg_186).cell rfl) (K.cl ((hS.blk 9 rfl hg_186).cell rfl) (K.cl ((hS.blk 9 rfl hg_186).cell rfl) (K.cl ((hS.blk 9 rfl hg_186).cell rfl) K.cl0)))))))⟩, rfl, trivial⟩, [gw], ?_, hS.pick [5, 10]⟩
          exact ⟨rfl, by rw [callW_ok (by omega) (by unfold kindW; omega) (by rw [hb]; exact h_173)]; unfold callA1; rw [hb, if_pos (by omega), if_neg (by omega)]; rfl⟩
        ·
          replace hS : K.Sat w0 [g_167, l_156, g_164, gw, g_151, g_148, g_10, g_2, fr] w := hS
          refine ⟨.inl (hS.pick []), ?_⟩
          refine K.DW.l 8 rfl (by kernel_rfl) rfl (K.OW.q rfl (K.QR.k (v := .tuple #[.slice none 0 0, .int .i64 (numsE (restW W) ([((0, 63) : Int × Int)] ++ [((0, 4294967295) : Int × Int)]))]) (by kernel_rfl)) ?_)
          refine ⟨.inl (hS.pick []), ?_⟩
          refine K.DW.q 9 (by kernel_rfl) rfl rfl (by kernel_rfl) rfl (fun w hS => K.QR.k (v := .slice none 0 0) (by kernel_rfl)) (hS.pick []) ?_
          refine K.DW.q 10 (by kernel_rfl) rfl rfl (by kernel_rfl) rfl (fun w hS => K.QR.k (v := .int .i64 (numsE (restW W) ([((0, 63) : Int × Int)] ++ [((0, 4294967295) : Int × Int)]))) (by kernel_rfl)) (hS.pick []) ?_
          refine K.DW.l 11 rfl (by kernel_rfl) rfl (K.OW.q rfl (K.QR.k (v := .slice none 0 0) (by kernel_rfl)) ?_)
          refine ⟨.inl (hS.pick []), ?_⟩
          refine K.DW.l 12 rfl (by kernel_rfl) rfl (K.OW.q rfl (K.QR.k (v := .int .i64 (numsE (restW W) ([((0, 63) : Int × Int)] ++ [((0, 4294967295) : Int × Int)]))) (by kernel_rfl)) ?_)
          refine ⟨.inl (hS.pick []), ?_⟩
          refine K.DW.done (by kernel_rfl) ?_
          refine K.thn_normal ?_
          refine K.KW.seq ?_
          refine K.KW.seq ?_
          -- 15 :112
          refine K.KW.region ?_
          refine K.RW.qs [.int .i64 (numsE (restW W) ([((0, 63) : Int × Int)] ++ [((0, 4294967295) : Int × Int)]))] (by kernel_rfl) ?_
          refine K.RW.q rfl rfl (K.QR.nice (v := .bool (((numsE (restW W) ([((0, 63) : Int × Int)] ++ [((0, 4294967295) : Int × Int)])) : Int) != (0 : Int))) (by kernel_rfl) (congrArg Value.bool (bne_iff_ne.2 (by omega)))) ?_
          refine K.RW.nil ?_
          refine K.thn_normal ?_
          refine K.KW.ifT rfl ?_
          refine K.KW.seq ?_
          -- 16 :113
          refine K.KW.region ?_
          refine K.RW.q rfl rfl (K.QR.bd [] [.int .i64 0, .int .i64 0, .int .i64 0, .int .i64 0, .int .u32 0, .int .u32 0] rfl rfl (by kernel_rfl)) ?_
          refine K.RW.qs [.int .i64 (numsE (restW W) ([((0, 63) : Int × Int)] ++ [((0, 4294967295) : Int × Int)]))] (by kernel_rfl) ?_
          refine K.RW.l rfl (K.OW.gst 7 [.int .i64 0, .int .i64 0, .int .i64 0, .int .i64 0, .int .u32 0, .int .u32 0] [.int .i64 0, .int .i64 0, .int .i64 0, .int .i64 0, .int .u32 0, .int .u32 0] hS hg_3 ?_)
          clear hS; intro w g_187 hg_188 hS
          replace hS : K.Sat w0 [g_167, l_156, g_164, gw, g_151, g_148, g_10, g_187, fr] w := hS
          refine K.RW.qs [.int .i64 (numsE (restW W) ([((0, 63) : Int × Int)] ++ [((0, 4294967295) : Int × Int)]))] (by kernel_rfl) ?_
          refine K.RW.nil ?_
          refine K.thn_normal ?_
          refine K.KW.ret ?_
          refine K.thn_ret ?_
          have hb : bndK (kindW W) = _ := bndo h_21
          refine ⟨.inr rfl, rfl, (.tuple #[.agg #[.int .i64 0, .int .i64 0, .int .i64 0, .int .i64 0, .int .u32 0, .int .u32 0], .int .i64 (numsE (restW W) ([((0, 63) : Int × Int)] ++ [((0, 4294967295) : Int × Int)]))]), K.resAt (rs := [.cell 2 57, .tmp 3]) [.agg #[.int .i64 0, .int .i64 0, .int .i64 0, .int .i64 0, .int .u32 0, .int .u32 0], .int .i64 (numsE (restW W) ([((0, 63) : Int × Int)] ++ [((0, 4294967295) : Int × Int)]))] rfl ⟨⟨_, rfl, K.lvN [.int .i64 0, .int .i64 0, .int .i64 0, .int .i64 0, .int .u32 0, .int .u32 0] (by kernel_rfl) (by kernel_rfl) (K.cells (K.cl ((hS.blk 7 rfl hg_188).cell rfl) (K.cl ((hS.blk 7 rfl hg_188).cell rfl) (K.cl ((hS.blk 7 rfl hg_188).cell rfl) (K.cl ((hS.blk 7 rfl hg_188).cell rfl) (K.cl ((hS.blk 7 rfl hg_188).cell rfl) (K.cl ((hS.blk 7 rfl hg_188).cell rfl) K.cl0)))))))⟩, rfl, trivial⟩, [gw], ?_, hS.pick [3, 8]⟩
          exact ⟨rfl, by rw [callW_bad (by omega) (by unfold kindW; omega) (by rw [hb]; exact h_175), hb]; rfl⟩
set_option maxHeartbeats 8000000 in
set_option maxRecDepth 100000 in
theorem sline_ok (w0 : World) (l : List UInt8) (hl : l.length ≤ 800000) :
    K.GC Tryd.prog w0 72 #[.string (K.sb l)] [] (fun v post => post = [] ∧ v = .tuple #[actA (actW (K.spl 32 l)).1, .int .i64 (actW (K.spl 32 l)).2.1, .int .i64 (actW (K.spl 32 l)).2.2]) := by
  refine K.GC.mk (n := 94) Tryd.func72 rfl rfl [.string (K.sb l)] rfl rfl ?_
  intro fr w hS
  replace hS : K.Sat w0 [fr] w := hS
  refine K.KW.seq ?_
  -- 0 :126
  refine K.KW.region ?_
  refine K.RW.l rfl (K.OW.gnew 57 [.int .i64 0, .int .i64 0, .int .i64 0, .int .i64 0, .int .u32 0, .int .u32 0] hS ?_)
  clear hS; intro w r_1 g_2 hg_3 hS
  refine K.RW.qs [.int .i64 0, .int .i64 0] (by kernel_rfl) ?_
  refine K.RW.nil ?_
  refine K.thn_normal ?_
  refine K.KW.seq ?_
  -- 1 :127
  refine K.KW.region ?_
  refine K.RW.qs [.string (K.sb l)] (by kernel_rfl) ?_
  refine K.RW.l rfl (K.OW.gcall hS [] [0, 1] [.string (K.sb l), .string (K.sb [32])] (split_ok _ l 32 (by omega)) ?_)
  clear hS; rintro _ _ w ⟨r_4, g_5, rfl, rfl, o_6⟩ hS
  replace hS : K.Sat w0 [g_5, g_2, fr] w := hS
  refine K.RW.qs [.slice (some ⟨r_4, 0, none⟩) ((K.spl 32 l).length) ((K.spl 32 l).length)] (by kernel_rfl) ?_
  refine K.RW.nil ?_
  refine K.thn_normal ?_
  refine K.KW.seq ?_
  refine K.KW.seq ?_
  -- 2 :128
  have hpl : 0 < (K.spl 32 l).length := List.length_pos_iff.2 (K.spl_ne 32 l)
  have hpc := K.spl_len 32 l
  have hpd : l.count 32 ≤ l.length := List.count_le_length
  have hWl : ∀ x ∈ K.spl 32 l, x.length ≤ 1000000 := fun x hx => Nat.le_trans (K.mem_spl_len hx) (by omega)
  refine K.KW.region ?_
  refine K.RW.qs [.slice (some ⟨r_4, 0, none⟩) ((K.spl 32 l).length) ((K.spl 32 l).length)] (by kernel_rfl) ?_
  refine K.RW.q rfl rfl (K.QR.ix 0 1 rfl rfl rfl Tryd.underlying68 (by kernel_rfl) (by omega) (by first | (simp; done) | omega | (simp; omega))) ?_
  refine K.RW.q rfl rfl (K.QR.ld1 (v := .string (K.sb ((K.spl 32 l).getD 0 []))) rfl rfl (by kernel_rfl) (K.Own.atS (c := K.cStr) (d := []) (fun _ => rfl) (hS.ownr 0 rfl o_6) rfl 0 (by omega))) ?_
  refine K.RW.nil ?_
  refine K.thn_normal ?_
  refine K.KW.block ?_
  refine K.KW.seq ?_
  -- 3 :129
  refine K.KW.region ?_
  by_cases h_7 : ((K.spl 32 l).getD 0 []) = ([99, 97, 108, 108] : List UInt8)
  ·  -- yes
    refine K.RW.q rfl rfl (K.QR.sEq (xs := (K.spl 32 l).getD 0 []) (ys := [99, 97, 108, 108]) true rfl rfl rfl (K.deq_t h_7)) ?_
    refine K.RW.qs [.bool true] (by kernel_rfl) ?_
    refine K.RW.nil ?_
    refine K.thn_normal ?_
    refine K.KW.ifT rfl ?_
    refine K.KW.seq ?_
    -- 4 :130
    refine K.KW.region ?_
    refine K.RW.qs [.slice (some ⟨r_4, 0, none⟩) ((K.spl 32 l).length) ((K.spl 32 l).length)] (by kernel_rfl) ?_
    have hr_10 : ∀ w, K.Sat w0 [g_5] w → K.RowE w (some ⟨r_4, 0, none⟩) (K.spl 32 l).length 1 (fun i => K.cStr ((K.spl 32 l).getD i [])) := fun w h => K.RowE.len (K.Own.rowE [] (h.ownr 0 rfl o_6) rfl (fun _ => rfl)) rfl
    obtain ⟨as_11, has_12⟩ : ∃ q, q = K.shift (some ⟨r_4, 0, none⟩) ((K.spl 32 l).length) 1 1 := ⟨_, rfl⟩
    have x_8 : ∀ w, K.Sat w0 [g_5] w → K.RowE w as_11 ((K.spl 32 l).drop 1).length 1 (fun i => K.cStr (((K.spl 32 l).drop 1).getD i [])) := fun w h => has_12 ▸ K.RowE.drop (c := K.cStr) (d := []) (L := (K.spl 32 l)) (cap := ((K.spl 32 l).length)) (hr_10 w h) 1 (by first | omega | (simp; done) | (simp; omega)) (o_6.le.1)
    have n_9 : ((K.spl 32 l).drop 1).length = (K.spl 32 l).length - 1 := List.length_drop
    refine K.RW.q rfl rfl (K.QR.turn (v' := .slice as_11 (((K.spl 32 l).drop 1).length) ((K.spl 32 l).length - 1)) (K.QR.slLo (size := 1) (m := ((K.spl 32 l).length)) (k := (((K.spl 32 l).drop 1).length)) 1 rfl rfl rfl Tryd.underlying68 (by kernel_rfl) (by first | omega | (simp; done) | (simp; omega)) (by first | omega | (simp; done) | (simp; omega))) (by rw [has_12])) ?_
    refine K.RW.l rfl (K.OW.gcall hS [0] [1, 2] [.slice as_11 (((K.spl 32 l).drop 1).length) ((K.spl 32 l).length - 1)] (scall_ok _ _ ((K.spl 32 l).length - 1) ((K.spl 32 l).drop 1) (by omega) (by omega) (fun x hx => hWl x (List.mem_of_mem_drop hx)) _ x_8) ?_)
    clear hS; rintro _ _ w ⟨rfl, rfl⟩ hS
    replace hS : K.Sat w0 [g_5, g_2, fr] w := hS
    refine K.RW.qs [.tuple #[.agg #[.int .i64 (((callW ((K.spl 32 l).drop 1)).1).k), .int .i64 (((callW ((K.spl 32 l).drop 1)).1).th), .int .i64 (((callW ((K.spl 32 l).drop 1)).1).ln), .int .i64 (((callW ((K.spl 32 l).drop 1)).1).ok), .int .u32 (((callW ((K.spl 32 l).drop 1)).1).key), .int .u32 (((callW ((K.spl 32 l).drop 1)).1).val)], .int .i64 ((callW ((K.spl 32 l).drop 1)).2)], .agg #[.int .i64 (((callW ((K.spl 32 l).drop 1)).1).k), .int .i64 (((callW ((K.spl 32 l).drop 1)).1).th), .int .i64 (((callW ((K.spl 32 l).drop 1)).1).ln), .int .i64 (((callW ((K.spl 32 l).drop 1)).1).ok), .int .u32 (((callW ((K.spl 32 l).drop 1)).1).key), .int .u32 (((callW ((K.spl 32 l).drop 1)).1).val)], .int .i64 ((callW ((K.spl 32 l).drop 1)).2)] (by kernel_rfl) ?_
    refine K.RW.l rfl (K.OW.gnew 57 [.int .i64 0, .int .i64 0, .int .i64 0, .int .i64 0, .int .u32 0, .int .u32 0] hS ?_)
    clear hS; intro w r_13 g_14 hg_15 hS
    refine K.RW.l rfl (K.OW.gst 0 [.int .i64 (((callW ((K.spl 32 l).drop 1)).1).k), .int .i64 (((callW ((K.spl 32 l).drop 1)).1).th), .int .i64 (((callW ((K.spl 32 l).drop 1)).1).ln), .int .i64 (((callW ((K.spl 32 l).drop 1)).1).ok), .int .u32 (((callW ((K.spl 32 l).drop 1)).1).key), .int .u32 (((callW ((K.spl 32 l).drop 1)).1).val)] [.int .i64 (((callW ((K.spl 32 l).drop 1)).1).k), .int .i64 (((callW ((K.spl 32 l).drop 1)).1).th), .int .i64 (((callW ((K.spl 32 l).drop 1)).1).ln), .int .i64 (((callW ((K.spl 32 l).drop 1)).1).ok), .int .u32 (((callW ((K.spl 32 l).drop 1)).1).key), .int .u32 (((callW ((K.spl 32 l).drop 1)).1).val)] hS hg_15 ?_)
    clear hS; intro w g_16 hg_17 hS
    replace hS : K.Sat w0 [g_16, g_5, g_2, fr] w := hS
    refine K.RW.qs [.int .i64 ((callW ((K.spl 32 l).drop 1)).2)] (by kernel_rfl) ?_
    refine K.RW.nil ?_
    refine K.thn_normal ?_
    refine K.KW.seq ?_
    -- 5 :131
    refine K.KW.region ?_
    refine K.RW.q rfl rfl (K.QR.ldN [.int .i64 (((callW ((K.spl 32 l).drop 1)).1).k), .int .i64 (((callW ((K.spl 32 l).drop 1)).1).th), .int .i64 (((callW ((K.spl 32 l).drop 1)).1).ln), .int .i64 (((callW ((K.spl 32 l).drop 1)).1).ok), .int .u32 (((callW ((K.spl 32 l).drop 1)).1).key), .int .u32 (((callW ((K.spl 32 l).drop 1)).1).val)] rfl rfl (by kernel_rfl) (by kernel_rfl) (K.cells (K.cl ((hS.blk 0 rfl hg_17).cell rfl) (K.cl ((hS.blk 0 rfl hg_17).cell rfl) (K.cl ((hS.blk 0 rfl hg_17).cell rfl) (K.cl ((hS.blk 0 rfl hg_17).cell rfl) (K.cl ((hS.blk 0 rfl hg_17).cell rfl) (K.cl ((hS.blk 0 rfl hg_17).cell rfl) K.cl0)))))))) ?_
    refine K.RW.qs [.int .i64 ((callW ((K.spl 32 l).drop 1)).2)] (by kernel_rfl) ?_
    refine K.RW.l rfl (K.OW.gst 2 [.int .i64 (((callW ((K.spl 32 l).drop 1)).1).k), .int .i64 (((callW ((K.spl 32 l).drop 1)).1).th), .int .i64 (((callW ((K.spl 32 l).drop 1)).1).ln), .int .i64 (((callW ((K.spl 32 l).drop 1)).1).ok), .int .u32 (((callW ((K.spl 32 l).drop 1)).1).key), .int .u32 (((callW ((K.spl 32 l).drop 1)).1).val)] [.int .i64 (((callW ((K.spl 32 l).drop 1)).1).k), .int .i64 (((callW ((K.spl 32 l).drop 1)).1).th), .int .i64 (((callW ((K.spl 32 l).drop 1)).1).ln), .int .i64 (((callW ((K.spl 32 l).drop 1)).1).ok), .int .u32 (((callW ((K.spl 32 l).drop 1)).1).key), .int .u32 (((callW ((K.spl 32 l).drop 1)).1).val)] hS hg_3 ?_)
    clear hS; intro w g_18 hg_19 hS
    replace hS : K.Sat w0 [g_16, g_5, g_18, fr] w := hS
    refine K.RW.qs [.int .i64 1, .int .i64 ((callW ((K.spl 32 l).drop 1)).2)] (by kernel_rfl) ?_
    refine K.RW.nil ?_
    refine K.thn_normal ?_
    refine K.KW.ret ?_
    refine K.blk_ret ?_
    refine K.thn_ret ?_
    refine ⟨.inr rfl, rfl, (.tuple #[.agg #[.int .i64 (((callW ((K.spl 32 l).drop 1)).1).k), .int .i64 (((callW ((K.spl 32 l).drop 1)).1).th), .int .i64 (((callW ((K.spl 32 l).drop 1)).1).ln), .int .i64 (((callW ((K.spl 32 l).drop 1)).1).ok), .int .u32 (((callW ((K.spl 32 l).drop 1)).1).key), .int .u32 (((callW ((K.spl 32 l).drop 1)).1).val)], .int .i64 1, .int .i64 ((callW ((K.spl 32 l).drop 1)).2)]), K.resAt (rs := [.cell 2 57, .tmp 3, .tmp 4]) [.agg #[.int .i64 (((callW ((K.spl 32 l).drop 1)).1).k), .int .i64 (((callW ((K.spl 32 l).drop 1)).1).th), .int .i64 (((callW ((K.spl 32 l).drop 1)).1).ln), .int .i64 (((callW ((K.spl 32 l).drop 1)).1).ok), .int .u32 (((callW ((K.spl 32 l).drop 1)).1).key), .int .u32 (((callW ((K.spl 32 l).drop 1)).1).val)], .int .i64 1, .int .i64 ((callW ((K.spl 32 l).drop 1)).2)] rfl ⟨⟨_, rfl, K.lvN [.int .i64 (((callW ((K.spl 32 l).drop 1)).1).k), .int .i64 (((callW ((K.spl 32 l).drop 1)).1).th), .int .i64 (((callW ((K.spl 32 l).drop 1)).1).ln), .int .i64 (((callW ((K.spl 32 l).drop 1)).1).ok), .int .u32 (((callW ((K.spl 32 l).drop 1)).1).key), .int .u32 (((callW ((K.spl 32 l).drop 1)).1).val)] (by kernel_rfl) (by kernel_rfl) (K.cells (K.cl ((hS.blk 2 rfl hg_19).cell rfl) (K.cl ((hS.blk 2 rfl hg_19).cell rfl) (K.cl ((hS.blk 2 rfl hg_19).cell rfl) (K.cl ((hS.blk 2 rfl hg_19).cell rfl) (K.cl ((hS.blk 2 rfl hg_19).cell rfl) (K.cl ((hS.blk 2 rfl hg_19).cell rfl) K.cl0)))))))⟩, rfl, rfl, trivial⟩, [], ?_, hS.pick [3]⟩
    exact ⟨rfl, by unfold actW; rw [if_pos h_7]; rfl⟩
  ·  -- no
    refine K.RW.q rfl rfl (K.QR.sEq (xs := (K.spl 32 l).getD 0 []) (ys := [99, 97, 108, 108]) false rfl rfl rfl (K.deq_f h_7)) ?_
    refine K.RW.qs [.bool false] (by kernel_rfl) ?_
    refine K.RW.nil ?_
    refine K.thn_normal ?_
    refine K.KW.ifF rfl ?_
    refine K.KW.seq ?_
    -- 6 :132
    refine K.KW.region ?_
    by_cases h_20 : ((K.spl 32 l).getD 0 []) = ([115, 116, 101, 112] : List UInt8)
    ·  -- yes
      refine K.RW.q rfl rfl (K.QR.sEq (xs := (K.spl 32 l).getD 0 []) (ys := [115, 116, 101, 112]) true rfl rfl rfl (K.deq_t h_20)) ?_
      refine K.RW.qs [.bool true] (by kernel_rfl) ?_
      refine K.RW.nil ?_
      refine K.thn_normal ?_
      refine K.KW.ifT rfl ?_
      refine K.KW.seq ?_
      -- 7 :133
      refine K.KW.region ?_
      refine K.RW.qs [.slice (some ⟨r_4, 0, none⟩) ((K.spl 32 l).length) ((K.spl 32 l).length)] (by kernel_rfl) ?_
      have hr_23 : ∀ w, K.Sat w0 [g_5] w → K.RowE w (some ⟨r_4, 0, none⟩) (K.spl 32 l).length 1 (fun i => K.cStr ((K.spl 32 l).getD i [])) := fun w h => K.RowE.len (K.Own.rowE [] (h.ownr 0 rfl o_6) rfl (fun _ => rfl)) rfl
      obtain ⟨as_24, has_25⟩ : ∃ q, q = K.shift (some ⟨r_4, 0, none⟩) ((K.spl 32 l).length) 1 1 := ⟨_, rfl⟩
      have x_21 : ∀ w, K.Sat w0 [g_5] w → K.RowE w as_24 ((K.spl 32 l).drop 1).length 1 (fun i => K.cStr (((K.spl 32 l).drop 1).getD i [])) := fun w h => has_25 ▸ K.RowE.drop (c := K.cStr) (d := []) (L := (K.spl 32 l)) (cap := ((K.spl 32 l).length)) (hr_23 w h) 1 (by first | omega | (simp; done) | (simp; omega)) (o_6.le.1)
      have n_22 : ((K.spl 32 l).drop 1).length = (K.spl 32 l).length - 1 := List.length_drop
      refine K.RW.q rfl rfl (K.QR.turn (v' := .slice as_24 (((K.spl 32 l).drop 1).length) ((K.spl 32 l).length - 1)) (K.QR.slLo (size := 1) (m := ((K.spl 32 l).length)) (k := (((K.spl 32 l).drop 1).length)) 1 rfl rfl rfl Tryd.underlying68 (by kernel_rfl) (by first | omega | (simp; done) | (simp; omega)) (by first | omega | (simp; done) | (simp; omega))) (by rw [has_25])) ?_
      refine K.RW.q rfl rfl (K.QR.bd [(0, .int .i64 0), (1, .int .i64 63)] [.int .i64 0, .int .i64 63] rfl rfl (by kernel_rfl)) ?_
      refine K.RW.q rfl rfl (K.QR.bd [(0, .int .i64 1), (1, .int .i64 10000)] [.int .i64 1, .int .i64 10000] rfl rfl (by kernel_rfl)) ?_
      refine K.RW.l rfl (K.OW.gbs [(0, .agg #[.int .i64 0, .int .i64 63]), (1, .agg #[.int .i64 1, .int .i64 10000])] [.int .i64 0, .int .i64 63, .int .i64 1, .int .i64 10000] hS (fun w => K.bs_run (P := Tryd.prog) w 141 136 2 _ _ Tryd.underlying141 (by kernel_rfl)) ?_)
      clear hS; intro w r_26 g_27 hg_28 hS
      refine K.RW.l rfl (K.OW.gcall hS [1, 0] [2, 3] [.slice as_24 (((K.spl 32 l).drop 1).length) ((K.spl 32 l).length - 1), .slice (some ⟨r_26, 0, none⟩) 2 2] (snumbers_ok _ _ _ _ _ ((K.spl 32 l).drop 1) ([((0, 63) : Int × Int), ((1, 10000) : Int × Int)] : List (Int × Int)) (by omega) (by first | decide | (simp; done) | (simp; omega)) (wl_getD fun x hx => hWl x (List.mem_of_mem_drop hx)) _ x_21 _ (fun w h => K.Blk.rowE (c := cRg) ((0, 0) : Int × Int) (L := [((0, 63) : Int × Int), ((1, 10000) : Int × Int)]) (h.blk 0 rfl hg_28) (fun _ => rfl) rfl)) ?_)
      clear hS; rintro _ _ w (⟨r_29, g_30, k_31, h_32, rfl, rfl, o_33⟩ | ⟨h_34, rfl, rfl⟩) hS
      ·
        replace hS : K.Sat w0 [g_5, g_27, g_30, g_2, fr] w := hS
        refine K.RW.qs [.tuple #[.slice r_29 ((numsV ((K.spl 32 l).drop 1) ([((0, 63) : Int × Int), ((1, 10000) : Int × Int)] : List (Int × Int))).length) k_31, .int .i64 0], .slice r_29 ((numsV ((K.spl 32 l).drop 1) ([((0, 63) : Int × Int), ((1, 10000) : Int × Int)] : List (Int × Int))).length) k_31, .int .i64 0, .slice r_29 ((numsV ((K.spl 32 l).drop 1) ([((0, 63) : Int × Int), ((1, 10000) : Int × Int)] : List (Int × Int))).length) k_31, .int .i64 0] (by kernel_rfl) ?_
        refine K.RW.nil ?_
        refine K.thn_normal ?_
        refine K.KW.seq ?_
        refine K.KW.seq ?_
        -- 8 :134
        refine K.KW.region ?_
        refine K.RW.qs [.int .i64 0, .bool false] (by kernel_rfl) ?_
        refine K.RW.nil ?_
        refine K.thn_normal ?_
        refine K.KW.ifF rfl ?_
        refine K.KW.skip ?_
        refine K.thn_normal ?_
        refine K.KW.seq ?_
        -- 10 :137
        have hlW : (numsV ((K.spl 32 l).drop 1) ([((0, 63) : Int × Int), ((1, 10000) : Int × Int)] : List (Int × Int))).length = _ := (numsV_len _ _).trans (numsE_lens h_32)
        simp only [List.length_cons, List.length_nil] at hlW
        obtain ⟨b_35, rfl⟩ := o_33.some_ (by have := o_33.le; omega)
        refine K.KW.gdrawn [2] hS (by kernel_rfl) ?_
        clear hS; intro w hS
        refine K.DW.q 0 (by kernel_rfl) rfl rfl (by kernel_rfl) rfl (fun w hS => K.QR.k (v := .slice (some ⟨b_35, 0, none⟩) ((numsV ((K.spl 32 l).drop 1) ([((0, 63) : Int × Int), ((1, 10000) : Int × Int)] : List (Int × Int))).length) k_31) (by kernel_rfl)) (hS.pick [2]) ?_
        refine K.DW.q 1 (by kernel_rfl) rfl rfl (by kernel_rfl) rfl (fun w hS => K.QR.ix 0 1 rfl rfl rfl Tryd.underlying78 (by kernel_rfl) (by omega) (by first | (simp; done) | omega | (simp; omega))) (hS.pick [2]) ?_
        refine K.DW.q 2 (by kernel_rfl) rfl rfl (by kernel_rfl) rfl (fun w hS => K.QR.ld1 (v := .int .i64 ((numsV ((K.spl 32 l).drop 1) ([((0, 63) : Int × Int), ((1, 10000) : Int × Int)] : List (Int × Int))).getD 0 0)) rfl rfl (by kernel_rfl) (K.Own.atS (c := cI64) (d := 0) (fun _ => rfl) (hS.ownr 0 rfl o_33) rfl 0 (by omega))) (hS.pick [2]) ?_
        refine K.DW.q 3 (by kernel_rfl) rfl rfl (by kernel_rfl) rfl (fun w hS => K.QR.bd [(0, .int .i64 2), (1, .int .i64 ((numsV ((K.spl 32 l).drop 1) ([((0, 63) : Int × Int), ((1, 10000) : Int × Int)] : List (Int × Int))).getD 0 0))] [.int .i64 2, .int .i64 ((numsV ((K.spl 32 l).drop 1) ([((0, 63) : Int × Int), ((1, 10000) : Int × Int)] : List (Int × Int))).getD 0 0), .int .i64 0, .int .i64 0, .int .u32 0, .int .u32 0] rfl rfl (by kernel_rfl)) (hS.pick [2]) ?_
        refine K.DW.q 4 (by kernel_rfl) rfl rfl (by kernel_rfl) rfl (fun w hS => K.QR.k (v := .slice (some ⟨b_35, 0, none⟩) ((numsV ((K.spl 32 l).drop 1) ([((0, 63) : Int × Int), ((1, 10000) : Int × Int)] : List (Int × Int))).length) k_31) (by kernel_rfl)) (hS.pick [2]) ?_
        refine K.DW.q 5 (by kernel_rfl) rfl rfl (by kernel_rfl) rfl (fun w hS => K.QR.ix 1 1 rfl rfl rfl Tryd.underlying78 (by kernel_rfl) (by omega) (by first | (simp; done) | omega | (simp; omega))) (hS.pick [2]) ?_
        refine K.DW.q 6 (by kernel_rfl) rfl rfl (by kernel_rfl) rfl (fun w hS => K.QR.ld1 (v := .int .i64 ((numsV ((K.spl 32 l).drop 1) ([((0, 63) : Int × Int), ((1, 10000) : Int × Int)] : List (Int × Int))).getD 1 0)) rfl rfl (by kernel_rfl) (K.Own.atS (c := cI64) (d := 0) (fun _ => rfl) (hS.ownr 0 rfl o_33) rfl 1 (by omega))) (hS.pick [2]) ?_
        refine K.DW.l 7 rfl (by kernel_rfl) rfl (K.OW.gst 3 [.int .i64 2, .int .i64 ((numsV ((K.spl 32 l).drop 1) ([((0, 63) : Int × Int), ((1, 10000) : Int × Int)] : List (Int × Int))).getD 0 0), .int .i64 0, .int .i64 0, .int .u32 0, .int .u32 0] [.int .i64 2, .int .i64 ((numsV ((K.spl 32 l).drop 1) ([((0, 63) : Int × Int), ((1, 10000) : Int × Int)] : List (Int × Int))).getD 0 0), .int .i64 0, .int .i64 0, .int .u32 0, .int .u32 0] hS hg_3 ?_)
        clear hS; intro w g_37 hg_38 hS
        replace hS : K.Sat w0 [g_5, g_27, g_30, g_37, fr] w := hS
        refine ⟨.inl (hS.pick [2]), ?_⟩
        refine K.DW.l 8 rfl (by kernel_rfl) rfl (K.OW.q rfl (K.QR.k (v := .int .i64 ((numsV ((K.spl 32 l).drop 1) ([((0, 63) : Int × Int), ((1, 10000) : Int × Int)] : List (Int × Int))).getD 1 0)) (by kernel_rfl)) ?_)
        refine ⟨.inl (hS.pick [2]), ?_⟩
        refine K.DW.l 9 rfl (by kernel_rfl) rfl (K.OW.q rfl (K.QR.k (v := .int .i64 0) (by kernel_rfl)) ?_)
        refine ⟨.inl (hS.pick [2]), ?_⟩
        refine K.DW.done (by kernel_rfl) ?_
        refine K.thn_normal ?_
        refine K.KW.ret ?_
        refine K.blk_ret ?_
        refine K.thn_ret ?_
        refine ⟨.inr rfl, rfl, (.tuple #[.agg #[.int .i64 2, .int .i64 ((numsV ((K.spl 32 l).drop 1) ([((0, 63) : Int × Int), ((1, 10000) : Int × Int)] : List (Int × Int))).getD 0 0), .int .i64 0, .int .i64 0, .int .u32 0, .int .u32 0], .int .i64 ((numsV ((K.spl 32 l).drop 1) ([((0, 63) : Int × Int), ((1, 10000) : Int × Int)] : List (Int × Int))).getD 1 0), .int .i64 0]), K.resAt (rs := [.cell 2 57, .tmp 3, .tmp 4]) [.agg #[.int .i64 2, .int .i64 ((numsV ((K.spl 32 l).drop 1) ([((0, 63) : Int × Int), ((1, 10000) : Int × Int)] : List (Int × Int))).getD 0 0), .int .i64 0, .int .i64 0, .int .u32 0, .int .u32 0], .int .i64 ((numsV ((K.spl 32 l).drop 1) ([((0, 63) : Int × Int), ((1, 10000) : Int × Int)] : List (Int × Int))).getD 1 0), .int .i64 0] rfl ⟨⟨_, rfl, K.lvN [.int .i64 2, .int .i64 ((numsV ((K.spl 32 l).drop 1) ([((0, 63) : Int × Int), ((1, 10000) : Int × Int)] : List (Int × Int))).getD 0 0), .int .i64 0, .int .i64 0, .int .u32 0, .int .u32 0] (by kernel_rfl) (by kernel_rfl) (K.cells (K.cl ((hS.blk 3 rfl hg_38).cell rfl) (K.cl ((hS.blk 3 rfl hg_38).cell rfl) (K.cl ((hS.blk 3 rfl hg_38).cell rfl) (K.cl ((hS.blk 3 rfl hg_38).cell rfl) (K.cl ((hS.blk 3 rfl hg_38).cell rfl) (K.cl ((hS.blk 3 rfl hg_38).cell rfl) K.cl0)))))))⟩, rfl, rfl, trivial⟩, [], ?_, hS.pick [4]⟩
        exact ⟨rfl, by unfold actW; rw [if_neg h_7, if_pos h_20, if_pos h_32]; rfl⟩
      ·
        replace hS : K.Sat w0 [g_5, g_27, g_2, fr] w := hS
        refine K.RW.qs [.tuple #[.slice none 0 0, .int .i64 (numsE ((K.spl 32 l).drop 1) ([((0, 63) : Int × Int), ((1, 10000) : Int × Int)] : List (Int × Int)))], .slice none 0 0, .int .i64 (numsE ((K.spl 32 l).drop 1) ([((0, 63) : Int × Int), ((1, 10000) : Int × Int)] : List (Int × Int))), .slice none 0 0, .int .i64 (numsE ((K.spl 32 l).drop 1) ([((0, 63) : Int × Int), ((1, 10000) : Int × Int)] : List (Int × Int)))] (by kernel_rfl) ?_
        refine K.RW.nil ?_
        refine K.thn_normal ?_
        refine K.KW.seq ?_
        refine K.KW.seq ?_
        -- 8 :134
        refine K.KW.region ?_
        refine K.RW.qs [.int .i64 (numsE ((K.spl 32 l).drop 1) ([((0, 63) : Int × Int), ((1, 10000) : Int × Int)] : List (Int × Int)))] (by kernel_rfl) ?_
        refine K.RW.q rfl rfl (K.QR.nice (v := .bool (((numsE ((K.spl 32 l).drop 1) ([((0, 63) : Int × Int), ((1, 10000) : Int × Int)] : List (Int × Int))) : Int) != (0 : Int))) (by kernel_rfl) (congrArg Value.bool (bne_iff_ne.2 (by omega)))) ?_
        refine K.RW.nil ?_
        refine K.thn_normal ?_
        refine K.KW.ifT rfl ?_
        refine K.KW.seq ?_
        -- 9 :135
        refine K.KW.region ?_
        refine K.RW.q rfl rfl (K.QR.bd [] [.int .i64 0, .int .i64 0, .int .i64 0, .int .i64 0, .int .u32 0, .int .u32 0] rfl rfl (by kernel_rfl)) ?_
        refine K.RW.qs [.int .i64 (numsE ((K.spl 32 l).drop 1) ([((0, 63) : Int × Int), ((1, 10000) : Int × Int)] : List (Int × Int)))] (by kernel_rfl) ?_
        refine K.RW.l rfl (K.OW.gst 2 [.int .i64 0, .int .i64 0, .int .i64 0, .int .i64 0, .int .u32 0, .int .u32 0] [.int .i64 0, .int .i64 0, .int .i64 0, .int .i64 0, .int .u32 0, .int .u32 0] hS hg_3 ?_)
        clear hS; intro w g_39 hg_40 hS
        replace hS : K.Sat w0 [g_5, g_27, g_39, fr] w := hS
        refine K.RW.qs [.int .i64 0, .int .i64 (numsE ((K.spl 32 l).drop 1) ([((0, 63) : Int × Int), ((1, 10000) : Int × Int)] : List (Int × Int)))] (by kernel_rfl) ?_
        refine K.RW.nil ?_
        refine K.thn_normal ?_
        refine K.KW.ret ?_
        refine K.thn_ret ?_
        refine K.blk_ret ?_
        refine K.thn_ret ?_
        refine ⟨.inr rfl, rfl, (.tuple #[.agg #[.int .i64 0, .int .i64 0, .int .i64 0, .int .i64 0, .int .u32 0, .int .u32 0], .int .i64 0, .int .i64 (numsE ((K.spl 32 l).drop 1) ([((0, 63) : Int × Int), ((1, 10000) : Int × Int)] : List (Int × Int)))]), K.resAt (rs := [.cell 2 57, .tmp 3, .tmp 4]) [.agg #[.int .i64 0, .int .i64 0, .int .i64 0, .int .i64 0, .int .u32 0, .int .u32 0], .int .i64 0, .int .i64 (numsE ((K.spl 32 l).drop 1) ([((0, 63) : Int × Int), ((1, 10000) : Int × Int)] : List (Int × Int)))] rfl ⟨⟨_, rfl, K.lvN [.int .i64 0, .int .i64 0, .int .i64 0, .int .i64 0, .int .u32 0, .int .u32 0] (by kernel_rfl) (by kernel_rfl) (K.cells (K.cl ((hS.blk 2 rfl hg_40).cell rfl) (K.cl ((hS.blk 2 rfl hg_40).cell rfl) (K.cl ((hS.blk 2 rfl hg_40).cell rfl) (K.cl ((hS.blk 2 rfl hg_40).cell rfl) (K.cl ((hS.blk 2 rfl hg_40).cell rfl) (K.cl ((hS.blk 2 rfl hg_40).cell rfl) K.cl0)))))))⟩, rfl, rfl, trivial⟩, [], ?_, hS.pick [3]⟩
        exact ⟨rfl, by unfold actW; rw [if_neg h_7, if_pos h_20, if_neg h_34]; rfl⟩
    ·  -- no
      refine K.RW.q rfl rfl (K.QR.sEq (xs := (K.spl 32 l).getD 0 []) (ys := [115, 116, 101, 112]) false rfl rfl rfl (K.deq_f h_20)) ?_
      refine K.RW.qs [.bool false] (by kernel_rfl) ?_
      refine K.RW.nil ?_
      refine K.thn_normal ?_
      refine K.KW.ifF rfl ?_
      refine K.KW.seq ?_
      -- 11 :138
      refine K.KW.region ?_
      by_cases h_41 : ((K.spl 32 l).getD 0 []) = ([101, 118, 105, 99, 116] : List UInt8)
      ·  -- yes
        refine K.RW.q rfl rfl (K.QR.sEq (xs := (K.spl 32 l).getD 0 []) (ys := [101, 118, 105, 99, 116]) true rfl rfl rfl (K.deq_t h_41)) ?_
        refine K.RW.qs [.bool true] (by kernel_rfl) ?_
        refine K.RW.nil ?_
        refine K.thn_normal ?_
        refine K.KW.ifT rfl ?_
        refine K.KW.seq ?_
        -- 12 :139
        refine K.KW.region ?_
        refine K.RW.qs [.slice (some ⟨r_4, 0, none⟩) ((K.spl 32 l).length) ((K.spl 32 l).length)] (by kernel_rfl) ?_
        have hr_44 : ∀ w, K.Sat w0 [g_5] w → K.RowE w (some ⟨r_4, 0, none⟩) (K.spl 32 l).length 1 (fun i => K.cStr ((K.spl 32 l).getD i [])) := fun w h => K.RowE.len (K.Own.rowE [] (h.ownr 0 rfl o_6) rfl (fun _ => rfl)) rfl
        obtain ⟨as_45, has_46⟩ : ∃ q, q = K.shift (some ⟨r_4, 0, none⟩) ((K.spl 32 l).length) 1 1 := ⟨_, rfl⟩
        have x_42 : ∀ w, K.Sat w0 [g_5] w → K.RowE w as_45 ((K.spl 32 l).drop 1).length 1 (fun i => K.cStr (((K.spl 32 l).drop 1).getD i [])) := fun w h => has_46 ▸ K.RowE.drop (c := K.cStr) (d := []) (L := (K.spl 32 l)) (cap := ((K.spl 32 l).length)) (hr_44 w h) 1 (by first | omega | (simp; done) | (simp; omega)) (o_6.le.1)
        have n_43 : ((K.spl 32 l).drop 1).length = (K.spl 32 l).length - 1 := List.length_drop
        refine K.RW.q rfl rfl (K.QR.turn (v' := .slice as_45 (((K.spl 32 l).drop 1).length) ((K.spl 32 l).length - 1)) (K.QR.slLo (size := 1) (m := ((K.spl 32 l).length)) (k := (((K.spl 32 l).drop 1).length)) 1 rfl rfl rfl Tryd.underlying68 (by kernel_rfl) (by first | omega | (simp; done) | (simp; omega)) (by first | omega | (simp; done) | (simp; omega))) (by rw [has_46])) ?_
        refine K.RW.q rfl rfl (K.QR.bd [(0, .int .i64 0), (1, .int .i64 262143)] [.int .i64 0, .int .i64 262143] rfl rfl (by kernel_rfl)) ?_
        refine K.RW.l rfl (K.OW.gbs [(0, .agg #[.int .i64 0, .int .i64 262143])] [.int .i64 0, .int .i64 262143] hS (fun w => K.bs_run (P := Tryd.prog) w 141 136 1 _ _ Tryd.underlying141 (by kernel_rfl)) ?_)
        clear hS; intro w r_47 g_48 hg_49 hS
        refine K.RW.l rfl (K.OW.gcall hS [1, 0] [2, 3] [.slice as_45 (((K.spl 32 l).drop 1).length) ((K.spl 32 l).length - 1), .slice (some ⟨r_47, 0, none⟩) 1 1] (snumbers_ok _ _ _ _ _ ((K.spl 32 l).drop 1) ([((0, 262143) : Int × Int)] : List (Int × Int)) (by omega) (by first | decide | (simp; done) | (simp; omega)) (wl_getD fun x hx => hWl x (List.mem_of_mem_drop hx)) _ x_42 _ (fun w h => K.Blk.rowE (c := cRg) ((0, 0) : Int × Int) (L := [((0, 262143) : Int × Int)]) (h.blk 0 rfl hg_49) (fun _ => rfl) rfl)) ?_)
        clear hS; rintro _ _ w (⟨r_50, g_51, k_52, h_53, rfl, rfl, o_54⟩ | ⟨h_55, rfl, rfl⟩) hS
        ·
          replace hS : K.Sat w0 [g_5, g_48, g_51, g_2, fr] w := hS
          refine K.RW.qs [.tuple #[.slice r_50 ((numsV ((K.spl 32 l).drop 1) ([((0, 262143) : Int × Int)] : List (Int × Int))).length) k_52, .int .i64 0], .slice r_50 ((numsV ((K.spl 32 l).drop 1) ([((0, 262143) : Int × Int)] : List (Int × Int))).length) k_52, .int .i64 0, .slice r_50 ((numsV ((K.spl 32 l).drop 1) ([((0, 262143) : Int × Int)] : List (Int × Int))).length) k_52, .int .i64 0] (by kernel_rfl) ?_
          refine K.RW.nil ?_
          refine K.thn_normal ?_
          refine K.KW.seq ?_
          refine K.KW.seq ?_
          -- 13 :140
          refine K.KW.region ?_
          refine K.RW.qs [.int .i64 0, .bool false] (by kernel_rfl) ?_
          refine K.RW.nil ?_
          refine K.thn_normal ?_
          refine K.KW.ifF rfl ?_
          refine K.KW.skip ?_
          refine K.thn_normal ?_
          refine K.KW.seq ?_
          -- 15 :143
          have hlW : (numsV ((K.spl 32 l).drop 1) ([((0, 262143) : Int × Int)] : List (Int × Int))).length = _ := (numsV_len _ _).trans (numsE_lens h_53)
          simp only [List.length_cons, List.length_nil] at hlW
          obtain ⟨b_56, rfl⟩ := o_54.some_ (by have := o_54.le; omega)
          refine K.KW.region ?_
          refine K.RW.qs [.slice (some ⟨b_56, 0, none⟩) ((numsV ((K.spl 32 l).drop 1) ([((0, 262143) : Int × Int)] : List (Int × Int))).length) k_52] (by kernel_rfl) ?_
          refine K.RW.q rfl rfl (K.QR.ix 0 1 rfl rfl rfl Tryd.underlying78 (by kernel_rfl) (by omega) (by first | (simp; done) | omega | (simp; omega))) ?_
          refine K.RW.q rfl rfl (K.QR.ld1 (v := .int .i64 ((numsV ((K.spl 32 l).drop 1) ([((0, 262143) : Int × Int)] : List (Int × Int))).getD 0 0)) rfl rfl (by kernel_rfl) (K.Own.atS (c := cI64) (d := 0) (fun _ => rfl) (hS.ownr 2 rfl o_54) rfl 0 (by omega))) ?_
          refine K.RW.q rfl rfl (K.QR.bd [(0, .int .i64 3), (2, .int .i64 ((numsV ((K.spl 32 l).drop 1) ([((0, 262143) : Int × Int)] : List (Int × Int))).getD 0 0))] [.int .i64 3, .int .i64 0, .int .i64 ((numsV ((K.spl 32 l).drop 1) ([((0, 262143) : Int × Int)] : List (Int × Int))).getD 0 0), .int .i64 0, .int .u32 0, .int .u32 0] rfl rfl (by kernel_rfl)) ?_
          refine K.RW.l rfl (K.OW.gst 3 [.int .i64 3, .int .i64 0, .int .i64 ((numsV ((K.spl 32 l).drop 1) ([((0, 262143) : Int × Int)] : List (Int × Int))).getD 0 0), .int .i64 0, .int .u32 0, .int .u32 0] [.int .i64 3, .int .i64 0, .int .i64 ((numsV ((K.spl 32 l).drop 1) ([((0, 262143) : Int × Int)] : List (Int × Int))).getD 0 0), .int .i64 0, .int .u32 0, .int .u32 0] hS hg_3 ?_)
          clear hS; intro w g_58 hg_59 hS
          replace hS : K.Sat w0 [g_5, g_48, g_51, g_58, fr] w := hS
          refine K.RW.qs [.int .i64 1, .int .i64 0] (by kernel_rfl) ?_
          refine K.RW.nil ?_
          refine K.thn_normal ?_
          refine K.KW.ret ?_
          refine K.blk_ret ?_
          refine K.thn_ret ?_
          refine ⟨.inr rfl, rfl, (.tuple #[.agg #[.int .i64 3, .int .i64 0, .int .i64 ((numsV ((K.spl 32 l).drop 1) ([((0, 262143) : Int × Int)] : List (Int × Int))).getD 0 0), .int .i64 0, .int .u32 0, .int .u32 0], .int .i64 1, .int .i64 0]), K.resAt (rs := [.cell 2 57, .tmp 3, .tmp 4]) [.agg #[.int .i64 3, .int .i64 0, .int .i64 ((numsV ((K.spl 32 l).drop 1) ([((0, 262143) : Int × Int)] : List (Int × Int))).getD 0 0), .int .i64 0, .int .u32 0, .int .u32 0], .int .i64 1, .int .i64 0] rfl ⟨⟨_, rfl, K.lvN [.int .i64 3, .int .i64 0, .int .i64 ((numsV ((K.spl 32 l).drop 1) ([((0, 262143) : Int × Int)] : List (Int × Int))).getD 0 0), .int .i64 0, .int .u32 0, .int .u32 0] (by kernel_rfl) (by kernel_rfl) (K.cells (K.cl ((hS.blk 3 rfl hg_59).cell rfl) (K.cl ((hS.blk 3 rfl hg_59).cell rfl) (K.cl ((hS.blk 3 rfl hg_59).cell rfl) (K.cl ((hS.blk 3 rfl hg_59).cell rfl) (K.cl ((hS.blk 3 rfl hg_59).cell rfl) (K.cl ((hS.blk 3 rfl hg_59).cell rfl) K.cl0)))))))⟩, rfl, rfl, trivial⟩, [], ?_, hS.pick [4]⟩
          exact ⟨rfl, by unfold actW; rw [if_neg h_7, if_neg h_20, if_pos h_41, if_pos h_53]; rfl⟩
        ·
          replace hS : K.Sat w0 [g_5, g_48, g_2, fr] w := hS
          refine K.RW.qs [.tuple #[.slice none 0 0, .int .i64 (numsE ((K.spl 32 l).drop 1) ([((0, 262143) : Int × Int)] : List (Int × Int)))], .slice none 0 0, .int .i64 (numsE ((K.spl 32 l).drop 1) ([((0, 262143) : Int × Int)] : List (Int × Int))), .slice none 0 0, .int .i64 (numsE ((K.spl 32 l).drop 1) ([((0, 262143) : Int × Int)] : List (Int × Int)))] (by kernel_rfl) ?_
          refine K.RW.nil ?_
          refine K.thn_normal ?_
          refine K.KW.seq ?_
          refine K.KW.seq ?_
          -- 13 :140
          refine K.KW.region ?_
          refine K.RW.qs [.int .i64 (numsE ((K.spl 32 l).drop 1) ([((0, 262143) : Int × Int)] : List (Int × Int)))] (by kernel_rfl) ?_
          refine K.RW.q rfl rfl (K.QR.nice (v := .bool (((numsE ((K.spl 32 l).drop 1) ([((0, 262143) : Int × Int)] : List (Int × Int))) : Int) != (0 : Int))) (by kernel_rfl) (congrArg Value.bool (bne_iff_ne.2 (by omega)))) ?_
          refine K.RW.nil ?_
          refine K.thn_normal ?_
          refine K.KW.ifT rfl ?_
          refine K.KW.seq ?_
          -- 14 :141
          refine K.KW.region ?_
          refine K.RW.q rfl rfl (K.QR.bd [] [.int .i64 0, .int .i64 0, .int .i64 0, .int .i64 0, .int .u32 0, .int .u32 0] rfl rfl (by kernel_rfl)) ?_
          refine K.RW.qs [.int .i64 (numsE ((K.spl 32 l).drop 1) ([((0, 262143) : Int × Int)] : List (Int × Int)))] (by kernel_rfl) ?_
          refine K.RW.l rfl (K.OW.gst 2 [.int .i64 0, .int .i64 0, .int .i64 0, .int .i64 0, .int .u32 0, .int .u32 0] [.int .i64 0, .int .i64 0, .int .i64 0, .int .i64 0, .int .u32 0, .int .u32 0] hS hg_3 ?_)
          clear hS; intro w g_60 hg_61 hS
          replace hS : K.Sat w0 [g_5, g_48, g_60, fr] w := hS
          refine K.RW.qs [.int .i64 0, .int .i64 (numsE ((K.spl 32 l).drop 1) ([((0, 262143) : Int × Int)] : List (Int × Int)))] (by kernel_rfl) ?_
          refine K.RW.nil ?_
          refine K.thn_normal ?_
          refine K.KW.ret ?_
          refine K.thn_ret ?_
          refine K.blk_ret ?_
          refine K.thn_ret ?_
          refine ⟨.inr rfl, rfl, (.tuple #[.agg #[.int .i64 0, .int .i64 0, .int .i64 0, .int .i64 0, .int .u32 0, .int .u32 0], .int .i64 0, .int .i64 (numsE ((K.spl 32 l).drop 1) ([((0, 262143) : Int × Int)] : List (Int × Int)))]), K.resAt (rs := [.cell 2 57, .tmp 3, .tmp 4]) [.agg #[.int .i64 0, .int .i64 0, .int .i64 0, .int .i64 0, .int .u32 0, .int .u32 0], .int .i64 0, .int .i64 (numsE ((K.spl 32 l).drop 1) ([((0, 262143) : Int × Int)] : List (Int × Int)))] rfl ⟨⟨_, rfl, K.lvN [.int .i64 0, .int .i64 0, .int .i64 0, .int .i64 0, .int .u32 0, .int .u32 0] (by kernel_rfl) (by kernel_rfl) (K.cells (K.cl ((hS.blk 2 rfl hg_61).cell rfl) (K.cl ((hS.blk 2 rfl hg_61).cell rfl) (K.cl ((hS.blk 2 rfl hg_61).cell rfl) (K.cl ((hS.blk 2 rfl hg_61).cell rfl) (K.cl ((hS.blk 2 rfl hg_61).cell rfl) (K.cl ((hS.blk 2 rfl hg_61).cell rfl) K.cl0)))))))⟩, rfl, rfl, trivial⟩, [], ?_, hS.pick [3]⟩
          exact ⟨rfl, by unfold actW; rw [if_neg h_7, if_neg h_20, if_pos h_41, if_neg h_55]; rfl⟩
      ·  -- no
        refine K.RW.q rfl rfl (K.QR.sEq (xs := (K.spl 32 l).getD 0 []) (ys := [101, 118, 105, 99, 116]) false rfl rfl rfl (K.deq_f h_41)) ?_
        refine K.RW.qs [.bool false] (by kernel_rfl) ?_
        refine K.RW.nil ?_
        refine K.thn_normal ?_
        refine K.KW.ifF rfl ?_
        refine K.KW.seq ?_
        -- 16 :144
        refine K.KW.region ?_
        by_cases h_62 : ((K.spl 32 l).getD 0 []) = ([114, 101, 118, 105, 118, 101] : List UInt8)
        ·  -- yes
          refine K.RW.q rfl rfl (K.QR.sEq (xs := (K.spl 32 l).getD 0 []) (ys := [114, 101, 118, 105, 118, 101]) true rfl rfl rfl (K.deq_t h_62)) ?_
          refine K.RW.qs [.bool true] (by kernel_rfl) ?_
          refine K.RW.nil ?_
          refine K.thn_normal ?_
          refine K.KW.ifT rfl ?_
          refine K.KW.seq ?_
          -- 17 :145
          refine K.KW.region ?_
          refine K.RW.qs [.slice (some ⟨r_4, 0, none⟩) ((K.spl 32 l).length) ((K.spl 32 l).length)] (by kernel_rfl) ?_
          have hr_65 : ∀ w, K.Sat w0 [g_5] w → K.RowE w (some ⟨r_4, 0, none⟩) (K.spl 32 l).length 1 (fun i => K.cStr ((K.spl 32 l).getD i [])) := fun w h => K.RowE.len (K.Own.rowE [] (h.ownr 0 rfl o_6) rfl (fun _ => rfl)) rfl
          obtain ⟨as_66, has_67⟩ : ∃ q, q = K.shift (some ⟨r_4, 0, none⟩) ((K.spl 32 l).length) 1 1 := ⟨_, rfl⟩
          have x_63 : ∀ w, K.Sat w0 [g_5] w → K.RowE w as_66 ((K.spl 32 l).drop 1).length 1 (fun i => K.cStr (((K.spl 32 l).drop 1).getD i [])) := fun w h => has_67 ▸ K.RowE.drop (c := K.cStr) (d := []) (L := (K.spl 32 l)) (cap := ((K.spl 32 l).length)) (hr_65 w h) 1 (by first | omega | (simp; done) | (simp; omega)) (o_6.le.1)
          have n_64 : ((K.spl 32 l).drop 1).length = (K.spl 32 l).length - 1 := List.length_drop
          refine K.RW.q rfl rfl (K.QR.turn (v' := .slice as_66 (((K.spl 32 l).drop 1).length) ((K.spl 32 l).length - 1)) (K.QR.slLo (size := 1) (m := ((K.spl 32 l).length)) (k := (((K.spl 32 l).drop 1).length)) 1 rfl rfl rfl Tryd.underlying68 (by kernel_rfl) (by first | omega | (simp; done) | (simp; omega)) (by first | omega | (simp; done) | (simp; omega))) (by rw [has_67])) ?_
          refine K.RW.q rfl rfl (K.QR.bd [(0, .int .i64 1), (1, .int .i64 10000)] [.int .i64 1, .int .i64 10000] rfl rfl (by kernel_rfl)) ?_
          refine K.RW.l rfl (K.OW.gbs [(0, .agg #[.int .i64 1, .int .i64 10000])] [.int .i64 1, .int .i64 10000] hS (fun w => K.bs_run (P := Tryd.prog) w 141 136 1 _ _ Tryd.underlying141 (by kernel_rfl)) ?_)
          clear hS; intro w r_68 g_69 hg_70 hS
          refine K.RW.l rfl (K.OW.gcall hS [1, 0] [2, 3] [.slice as_66 (((K.spl 32 l).drop 1).length) ((K.spl 32 l).length - 1), .slice (some ⟨r_68, 0, none⟩) 1 1] (snumbers_ok _ _ _ _ _ ((K.spl 32 l).drop 1) ([((1, 10000) : Int × Int)] : List (Int × Int)) (by omega) (by first | decide | (simp; done) | (simp; omega)) (wl_getD fun x hx => hWl x (List.mem_of_mem_drop hx)) _ x_63 _ (fun w h => K.Blk.rowE (c := cRg) ((0, 0) : Int × Int) (L := [((1, 10000) : Int × Int)]) (h.blk 0 rfl hg_70) (fun _ => rfl) rfl)) ?_)
          clear hS; rintro _ _ w (⟨r_71, g_72, k_73, h_74, rfl, rfl, o_75⟩ | ⟨h_76, rfl, rfl⟩) hS
          ·
            replace hS : K.Sat w0 [g_5, g_69, g_72, g_2, fr] w := hS
            refine K.RW.qs [.tuple #[.slice r_71 ((numsV ((K.spl 32 l).drop 1) ([((1, 10000) : Int × Int)] : List (Int × Int))).length) k_73, .int .i64 0], .slice r_71 ((numsV ((K.spl 32 l).drop 1) ([((1, 10000) : Int × Int)] : List (Int × Int))).length) k_73, .int .i64 0, .slice r_71 ((numsV ((K.spl 32 l).drop 1) ([((1, 10000) : Int × Int)] : List (Int × Int))).length) k_73, .int .i64 0] (by kernel_rfl) ?_
            refine K.RW.nil ?_
            refine K.thn_normal ?_
            refine K.KW.seq ?_
            refine K.KW.seq ?_
            -- 18 :146
            refine K.KW.region ?_
            refine K.RW.qs [.int .i64 0, .bool false] (by kernel_rfl) ?_
            refine K.RW.nil ?_
            refine K.thn_normal ?_
            refine K.KW.ifF rfl ?_
            refine K.KW.skip ?_
            refine K.thn_normal ?_
            refine K.KW.seq ?_
            -- 20 :149
            have hlW : (numsV ((K.spl 32 l).drop 1) ([((1, 10000) : Int × Int)] : List (Int × Int))).length = _ := (numsV_len _ _).trans (numsE_lens h_74)
            simp only [List.length_cons, List.length_nil] at hlW
            obtain ⟨b_77, rfl⟩ := o_75.some_ (by have := o_75.le; omega)
            refine K.KW.gdrawn [2] hS (by kernel_rfl) ?_
            clear hS; intro w hS
            refine K.DW.q 0 (by kernel_rfl) rfl rfl (by kernel_rfl) rfl (fun w hS => K.QR.bd [(0, .int .i64 5)] [.int .i64 5, .int .i64 0, .int .i64 0, .int .i64 0, .int .u32 0, .int .u32 0] rfl rfl (by kernel_rfl)) (hS.pick [2]) ?_
            refine K.DW.q 1 (by kernel_rfl) rfl rfl (by kernel_rfl) rfl (fun w hS => K.QR.k (v := .slice (some ⟨b_77, 0, none⟩) ((numsV ((K.spl 32 l).drop 1) ([((1, 10000) : Int × Int)] : List (Int × Int))).length) k_73) (by kernel_rfl)) (hS.pick [2]) ?_
            refine K.DW.q 2 (by kernel_rfl) rfl rfl (by kernel_rfl) rfl (fun w hS => K.QR.ix 0 1 rfl rfl rfl Tryd.underlying78 (by kernel_rfl) (by omega) (by first | (simp; done) | omega | (simp; omega))) (hS.pick [2]) ?_
            refine K.DW.q 3 (by kernel_rfl) rfl rfl (by kernel_rfl) rfl (fun w hS => K.QR.ld1 (v := .int .i64 ((numsV ((K.spl 32 l).drop 1) ([((1, 10000) : Int × Int)] : List (Int × Int))).getD 0 0)) rfl rfl (by kernel_rfl) (K.Own.atS (c := cI64) (d := 0) (fun _ => rfl) (hS.ownr 0 rfl o_75) rfl 0 (by omega))) (hS.pick [2]) ?_
            refine K.DW.l 4 rfl (by kernel_rfl) rfl (K.OW.gst 3 [.int .i64 5, .int .i64 0, .int .i64 0, .int .i64 0, .int .u32 0, .int .u32 0] [.int .i64 5, .int .i64 0, .int .i64 0, .int .i64 0, .int .u32 0, .int .u32 0] hS hg_3 ?_)
            clear hS; intro w g_79 hg_80 hS
            replace hS : K.Sat w0 [g_5, g_69, g_72, g_79, fr] w := hS
            refine ⟨.inl (hS.pick [2]), ?_⟩
            refine K.DW.l 5 rfl (by kernel_rfl) rfl (K.OW.q rfl (K.QR.k (v := .int .i64 ((numsV ((K.spl 32 l).drop 1) ([((1, 10000) : Int × Int)] : List (Int × Int))).getD 0 0)) (by kernel_rfl)) ?_)
            refine ⟨.inl (hS.pick [2]), ?_⟩
            refine K.DW.l 6 rfl (by kernel_rfl) rfl (K.OW.q rfl (K.QR.k (v := .int .i64 0) (by kernel_rfl)) ?_)
            refine ⟨.inl (hS.pick [2]), ?_⟩
            refine K.DW.done (by kernel_rfl) ?_
            refine K.thn_normal ?_
            refine K.KW.ret ?_
            refine K.blk_ret ?_
            refine K.thn_ret ?_
            refine ⟨.inr rfl, rfl, (.tuple #[.agg #[.int .i64 5, .int .i64 0, .int .i64 0, .int .i64 0, .int .u32 0, .int .u32 0], .int .i64 ((numsV ((K.spl 32 l).drop 1) ([((1, 10000) : Int × Int)] : List (Int × Int))).getD 0 0), .int .i64 0]), K.resAt (rs := [.cell 2 57, .tmp 3, .tmp 4]) [.agg #[.int .i64 5, .int .i64 0, .int .i64 0, .int .i64 0, .int .u32 0, .int .u32 0], .int .i64 ((numsV ((K.spl 32 l).drop 1) ([((1, 10000) : Int × Int)] : List (Int × Int))).getD 0 0), .int .i64 0] rfl ⟨⟨_, rfl, K.lvN [.int .i64 5, .int .i64 0, .int .i64 0, .int .i64 0, .int .u32 0, .int .u32 0] (by kernel_rfl) (by kernel_rfl) (K.cells (K.cl ((hS.blk 3 rfl hg_80).cell rfl) (K.cl ((hS.blk 3 rfl hg_80).cell rfl) (K.cl ((hS.blk 3 rfl hg_80).cell rfl) (K.cl ((hS.blk 3 rfl hg_80).cell rfl) (K.cl ((hS.blk 3 rfl hg_80).cell rfl) (K.cl ((hS.blk 3 rfl hg_80).cell rfl) K.cl0)))))))⟩, rfl, rfl, trivial⟩, [], ?_, hS.pick [4]⟩
            exact ⟨rfl, by unfold actW; rw [if_neg h_7, if_neg h_20, if_neg h_41, if_pos h_62, if_pos h_74]; rfl⟩
          ·
            replace hS : K.Sat w0 [g_5, g_69, g_2, fr] w := hS
            refine K.RW.qs [.tuple #[.slice none 0 0, .int .i64 (numsE ((K.spl 32 l).drop 1) ([((1, 10000) : Int × Int)] : List (Int × Int)))], .slice none 0 0, .int .i64 (numsE ((K.spl 32 l).drop 1) ([((1, 10000) : Int × Int)] : List (Int × Int))), .slice none 0 0, .int .i64 (numsE ((K.spl 32 l).drop 1) ([((1, 10000) : Int × Int)] : List (Int × Int)))] (by kernel_rfl) ?_
            refine K.RW.nil ?_
            refine K.thn_normal ?_
            refine K.KW.seq ?_
            refine K.KW.seq ?_
            -- 18 :146
            refine K.KW.region ?_
            refine K.RW.qs [.int .i64 (numsE ((K.spl 32 l).drop 1) ([((1, 10000) : Int × Int)] : List (Int × Int)))] (by kernel_rfl) ?_
            refine K.RW.q rfl rfl (K.QR.nice (v := .bool (((numsE ((K.spl 32 l).drop 1) ([((1, 10000) : Int × Int)] : List (Int × Int))) : Int) != (0 : Int))) (by kernel_rfl) (congrArg Value.bool (bne_iff_ne.2 (by omega)))) ?_
            refine K.RW.nil ?_
            refine K.thn_normal ?_
            refine K.KW.ifT rfl ?_
            refine K.KW.seq ?_
            -- 19 :147
            refine K.KW.region ?_
            refine K.RW.q rfl rfl (K.QR.bd [] [.int .i64 0, .int .i64 0, .int .i64 0, .int .i64 0, .int .u32 0, .int .u32 0] rfl rfl (by kernel_rfl)) ?_
            refine K.RW.qs [.int .i64 (numsE ((K.spl 32 l).drop 1) ([((1, 10000) : Int × Int)] : List (Int × Int)))] (by kernel_rfl) ?_
            refine K.RW.l rfl (K.OW.gst 2 [.int .i64 0, .int .i64 0, .int .i64 0, .int .i64 0, .int .u32 0, .int .u32 0] [.int .i64 0, .int .i64 0, .int .i64 0, .int .i64 0, .int .u32 0, .int .u32 0] hS hg_3 ?_)
            clear hS; intro w g_81 hg_82 hS
            replace hS : K.Sat w0 [g_5, g_69, g_81, fr] w := hS
            refine K.RW.qs [.int .i64 0, .int .i64 (numsE ((K.spl 32 l).drop 1) ([((1, 10000) : Int × Int)] : List (Int × Int)))] (by kernel_rfl) ?_
            refine K.RW.nil ?_
            refine K.thn_normal ?_
            refine K.KW.ret ?_
            refine K.thn_ret ?_
            refine K.blk_ret ?_
            refine K.thn_ret ?_
            refine ⟨.inr rfl, rfl, (.tuple #[.agg #[.int .i64 0, .int .i64 0, .int .i64 0, .int .i64 0, .int .u32 0, .int .u32 0], .int .i64 0, .int .i64 (numsE ((K.spl 32 l).drop 1) ([((1, 10000) : Int × Int)] : List (Int × Int)))]), K.resAt (rs := [.cell 2 57, .tmp 3, .tmp 4]) [.agg #[.int .i64 0, .int .i64 0, .int .i64 0, .int .i64 0, .int .u32 0, .int .u32 0], .int .i64 0, .int .i64 (numsE ((K.spl 32 l).drop 1) ([((1, 10000) : Int × Int)] : List (Int × Int)))] rfl ⟨⟨_, rfl, K.lvN [.int .i64 0, .int .i64 0, .int .i64 0, .int .i64 0, .int .u32 0, .int .u32 0] (by kernel_rfl) (by kernel_rfl) (K.cells (K.cl ((hS.blk 2 rfl hg_82).cell rfl) (K.cl ((hS.blk 2 rfl hg_82).cell rfl) (K.cl ((hS.blk 2 rfl hg_82).cell rfl) (K.cl ((hS.blk 2 rfl hg_82).cell rfl) (K.cl ((hS.blk 2 rfl hg_82).cell rfl) (K.cl ((hS.blk 2 rfl hg_82).cell rfl) K.cl0)))))))⟩, rfl, rfl, trivial⟩, [], ?_, hS.pick [3]⟩
            exact ⟨rfl, by unfold actW; rw [if_neg h_7, if_neg h_20, if_neg h_41, if_pos h_62, if_neg h_76]; rfl⟩
        ·  -- no
          refine K.RW.q rfl rfl (K.QR.sEq (xs := (K.spl 32 l).getD 0 []) (ys := [114, 101, 118, 105, 118, 101]) false rfl rfl rfl (K.deq_f h_62)) ?_
          refine K.RW.qs [.bool false] (by kernel_rfl) ?_
          refine K.RW.nil ?_
          refine K.thn_normal ?_
          refine K.KW.ifF rfl ?_
          refine K.KW.seq ?_
          -- 21 :150
          refine K.KW.region ?_
          by_cases h_83 : ((K.spl 32 l).getD 0 []) = ([99, 114, 97, 115, 104] : List UInt8)
          ·  -- yes
            refine K.RW.q rfl rfl (K.QR.sEq (xs := (K.spl 32 l).getD 0 []) (ys := [99, 114, 97, 115, 104]) true rfl rfl rfl (K.deq_t h_83)) ?_
            refine K.RW.qs [.bool true] (by kernel_rfl) ?_
            refine K.RW.nil ?_
            refine K.thn_normal ?_
            refine K.KW.ifT rfl ?_
            refine K.KW.seq ?_
            -- 22 :151
            refine K.KW.region ?_
            refine K.RW.qs [.slice (some ⟨r_4, 0, none⟩) ((K.spl 32 l).length) ((K.spl 32 l).length)] (by kernel_rfl) ?_
            refine K.RW.q rfl rfl (K.QR.len (P := Tryd.prog) rfl rfl Tryd.underlying68) ?_
            by_cases h_84 : ((((K.spl 32 l).length : Nat) : Int) : Int) = (1 : Int)
            ·  -- yes
              refine K.RW.q rfl rfl (K.QR.nice (v := .bool (((((K.spl 32 l).length : Nat) : Int) : Int) == (1 : Int))) (by kernel_rfl) (congrArg Value.bool (beq_iff_eq.2 h_84))) ?_
              refine K.RW.nil ?_
              refine K.thn_normal ?_
              refine K.KW.ifT rfl ?_
              refine K.KW.seq ?_
              -- 23 :152
              refine K.KW.region ?_
              refine K.RW.q rfl rfl (K.QR.bd [(0, .int .i64 4)] [.int .i64 4, .int .i64 0, .int .i64 0, .int .i64 0, .int .u32 0, .int .u32 0] rfl rfl (by kernel_rfl)) ?_
              refine K.RW.l rfl (K.OW.gst 1 [.int .i64 4, .int .i64 0, .int .i64 0, .int .i64 0, .int .u32 0, .int .u32 0] [.int .i64 4, .int .i64 0, .int .i64 0, .int .i64 0, .int .u32 0, .int .u32 0] hS hg_3 ?_)
              clear hS; intro w g_85 hg_86 hS
              replace hS : K.Sat w0 [g_5, g_85, fr] w := hS
              refine K.RW.qs [.int .i64 1, .int .i64 0] (by kernel_rfl) ?_
              refine K.RW.nil ?_
              refine K.thn_normal ?_
              refine K.KW.ret ?_
              refine K.blk_ret ?_
              refine K.thn_ret ?_
              refine ⟨.inr rfl, rfl, (.tuple #[.agg #[.int .i64 4, .int .i64 0, .int .i64 0, .int .i64 0, .int .u32 0, .int .u32 0], .int .i64 1, .int .i64 0]), K.resAt (rs := [.cell 2 57, .tmp 3, .tmp 4]) [.agg #[.int .i64 4, .int .i64 0, .int .i64 0, .int .i64 0, .int .u32 0, .int .u32 0], .int .i64 1, .int .i64 0] rfl ⟨⟨_, rfl, K.lvN [.int .i64 4, .int .i64 0, .int .i64 0, .int .i64 0, .int .u32 0, .int .u32 0] (by kernel_rfl) (by kernel_rfl) (K.cells (K.cl ((hS.blk 1 rfl hg_86).cell rfl) (K.cl ((hS.blk 1 rfl hg_86).cell rfl) (K.cl ((hS.blk 1 rfl hg_86).cell rfl) (K.cl ((hS.blk 1 rfl hg_86).cell rfl) (K.cl ((hS.blk 1 rfl hg_86).cell rfl) (K.cl ((hS.blk 1 rfl hg_86).cell rfl) K.cl0)))))))⟩, rfl, rfl, trivial⟩, [], ?_, hS.pick [2]⟩
              exact ⟨rfl, by unfold actW; rw [if_neg h_7, if_neg h_20, if_neg h_41, if_neg h_62, if_pos ⟨h_83, by omega⟩]; rfl⟩
            ·  -- no
              refine K.RW.q rfl rfl (K.QR.nice (v := .bool (((((K.spl 32 l).length : Nat) : Int) : Int) == (1 : Int))) (by kernel_rfl) (congrArg Value.bool (beq_eq_false_iff_ne.2 h_84))) ?_
              refine K.RW.nil ?_
              refine K.thn_normal ?_
              refine K.KW.ifF rfl ?_
              refine K.KW.skip ?_
              refine K.blk_normal ?_
              refine K.thn_normal ?_
              refine K.KW.seq ?_
              -- 24 :155
              refine K.KW.region ?_
              refine K.RW.q rfl rfl (K.QR.bd [] [.int .i64 0, .int .i64 0, .int .i64 0, .int .i64 0, .int .u32 0, .int .u32 0] rfl rfl (by kernel_rfl)) ?_
              refine K.RW.l rfl (K.OW.gst 1 [.int .i64 0, .int .i64 0, .int .i64 0, .int .i64 0, .int .u32 0, .int .u32 0] [.int .i64 0, .int .i64 0, .int .i64 0, .int .i64 0, .int .u32 0, .int .u32 0] hS hg_3 ?_)
              clear hS; intro w g_87 hg_88 hS
              replace hS : K.Sat w0 [g_5, g_87, fr] w := hS
              refine K.RW.qs [.int .i64 0, .int .i64 3] (by kernel_rfl) ?_
              refine K.RW.nil ?_
              refine K.thn_normal ?_
              refine K.KW.ret ?_
              refine ⟨.inr rfl, rfl, (.tuple #[.agg #[.int .i64 0, .int .i64 0, .int .i64 0, .int .i64 0, .int .u32 0, .int .u32 0], .int .i64 0, .int .i64 3]), K.resAt (rs := [.cell 2 57, .tmp 3, .tmp 4]) [.agg #[.int .i64 0, .int .i64 0, .int .i64 0, .int .i64 0, .int .u32 0, .int .u32 0], .int .i64 0, .int .i64 3] rfl ⟨⟨_, rfl, K.lvN [.int .i64 0, .int .i64 0, .int .i64 0, .int .i64 0, .int .u32 0, .int .u32 0] (by kernel_rfl) (by kernel_rfl) (K.cells (K.cl ((hS.blk 1 rfl hg_88).cell rfl) (K.cl ((hS.blk 1 rfl hg_88).cell rfl) (K.cl ((hS.blk 1 rfl hg_88).cell rfl) (K.cl ((hS.blk 1 rfl hg_88).cell rfl) (K.cl ((hS.blk 1 rfl hg_88).cell rfl) (K.cl ((hS.blk 1 rfl hg_88).cell rfl) K.cl0)))))))⟩, rfl, rfl, trivial⟩, [], ?_, hS.pick [2]⟩
              exact ⟨rfl, by unfold actW; rw [if_neg h_7, if_neg h_20, if_neg h_41, if_neg h_62, if_neg (fun hh => by have := hh.2; omega)]; rfl⟩
          ·  -- no
            refine K.RW.q rfl rfl (K.QR.sEq (xs := (K.spl 32 l).getD 0 []) (ys := [99, 114, 97, 115, 104]) false rfl rfl rfl (K.deq_f h_83)) ?_
            refine K.RW.qs [.bool false] (by kernel_rfl) ?_
            refine K.RW.nil ?_
            refine K.thn_normal ?_
            refine K.KW.ifF rfl ?_
            refine K.KW.skip ?_
            refine K.blk_normal ?_
            refine K.thn_normal ?_
            refine K.KW.seq ?_
            -- 24 :155
            refine K.KW.region ?_
            refine K.RW.q rfl rfl (K.QR.bd [] [.int .i64 0, .int .i64 0, .int .i64 0, .int .i64 0, .int .u32 0, .int .u32 0] rfl rfl (by kernel_rfl)) ?_
            refine K.RW.l rfl (K.OW.gst 1 [.int .i64 0, .int .i64 0, .int .i64 0, .int .i64 0, .int .u32 0, .int .u32 0] [.int .i64 0, .int .i64 0, .int .i64 0, .int .i64 0, .int .u32 0, .int .u32 0] hS hg_3 ?_)
            clear hS; intro w g_89 hg_90 hS
            replace hS : K.Sat w0 [g_5, g_89, fr] w := hS
            refine K.RW.qs [.int .i64 0, .int .i64 3] (by kernel_rfl) ?_
            refine K.RW.nil ?_
            refine K.thn_normal ?_
            refine K.KW.ret ?_
            refine ⟨.inr rfl, rfl, (.tuple #[.agg #[.int .i64 0, .int .i64 0, .int .i64 0, .int .i64 0, .int .u32 0, .int .u32 0], .int .i64 0, .int .i64 3]), K.resAt (rs := [.cell 2 57, .tmp 3, .tmp 4]) [.agg #[.int .i64 0, .int .i64 0, .int .i64 0, .int .i64 0, .int .u32 0, .int .u32 0], .int .i64 0, .int .i64 3] rfl ⟨⟨_, rfl, K.lvN [.int .i64 0, .int .i64 0, .int .i64 0, .int .i64 0, .int .u32 0, .int .u32 0] (by kernel_rfl) (by kernel_rfl) (K.cells (K.cl ((hS.blk 1 rfl hg_90).cell rfl) (K.cl ((hS.blk 1 rfl hg_90).cell rfl) (K.cl ((hS.blk 1 rfl hg_90).cell rfl) (K.cl ((hS.blk 1 rfl hg_90).cell rfl) (K.cl ((hS.blk 1 rfl hg_90).cell rfl) (K.cl ((hS.blk 1 rfl hg_90).cell rfl) K.cl0)))))))⟩, rfl, rfl, trivial⟩, [], ?_, hS.pick [2]⟩
            exact ⟨rfl, by unfold actW; rw [if_neg h_7, if_neg h_20, if_neg h_41, if_neg h_62, if_neg (fun hh => absurd hh.1 h_83)]; rfl⟩
end Go.Proofs.YtnehocjmgnhhhaaDoor
