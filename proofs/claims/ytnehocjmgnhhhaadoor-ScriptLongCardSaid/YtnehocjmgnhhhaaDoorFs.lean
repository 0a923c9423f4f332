import Derived.Test.YtnehocjmgnhhhaaDoorKh
import Derived.Test.YtnehocjmgnhhhaaDoorKi
import Derived.Test.YtnehocjmgnhhhaaDoorKs
import Derived.Test.YtnehocjmgnhhhaaDoorSh
import Derived.Test.YtnehocjmgnhhhaaDoorFlist
/- Strings of the library at one byte: cut in parts, put together again. -/
namespace Go.Proofs.YtnehocjmgnhhhaaDoor
open Go.RowKit
set_option linter.unusedVariables false
attribute [local irreducible] K.KW K.RW K.DW K.OW K.QR K.KC
namespace K
/-- the parts of a text between a byte -/
def spl (c : UInt8) : List UInt8 → List (List UInt8)
  | [] => [[]]
  | x :: r => if x = c then [] :: spl c r else match spl c r with
    | [] => [[x]]
    | h :: t => (x :: h) :: t
/-- parts put together, a byte between them -/
def jn (c : UInt8) : List (List UInt8) → List UInt8
  | [] => []
  | x :: r => match r with
    | [] => x
    | _ :: _ => x ++ c :: jn c r
theorem spl_ne (c : UInt8) (l : List UInt8) : spl c l ≠ [] := by
  cases l with
  | nil => simp [spl]
  | cons x r =>
    unfold spl
    split
    · simp
    · split <;> simp
theorem spl_none {c : UInt8} : ∀ {l : List UInt8}, (∀ x ∈ l, x ≠ c) → spl c l = [l]
  | [], _ => rfl
  | x :: r, h => by
    unfold spl
    rw [if_neg (h x (by simp)), spl_none (l := r) (fun y hy => h y (by simp [hy]))]
theorem spl_hit {c : UInt8} : ∀ {a b : List UInt8}, (∀ x ∈ a, x ≠ c) → spl c (a ++ c :: b) = a :: spl c b
  | [], b, _ => by simp [spl]
  | x :: a, b, h => by
    rw [List.cons_append, spl]
    rw [if_neg (h x (by simp)), spl_hit (a := a) (fun y hy => h y (by simp [hy]))]
theorem spl_jn (c : UInt8) : ∀ {xs : List (List UInt8)}, xs ≠ [] → (∀ x ∈ xs, ∀ y ∈ x, y ≠ c) → spl c (jn c xs) = xs
  | [], h, _ => absurd rfl h
  | [x], _, h => by simp only [jn]; exact spl_none (h x (by simp))
  | x :: y :: r, _, h => by
    show spl c (x ++ c :: jn c (y :: r)) = _
    rw [spl_hit (h x (by simp)), spl_jn c (xs := y :: r) (by simp) (fun z hz => h z (by simp [hz]))]
theorem spl_len (c : UInt8) : ∀ l : List UInt8, (spl c l).length = l.count c + 1
  | [] => rfl
  | x :: r => by
    have ih := spl_len c r
    have hne := spl_ne c r
    unfold spl
    split
    · rename_i h; subst h; simp [ih]
    · rename_i h
      rw [List.count_cons_of_ne h]
      cases hs : spl c r with
      | nil => exact absurd hs hne
      | cons a t => rw [hs] at ih; simpa using ih
theorem mem_spl_len {c : UInt8} {l x : List UInt8} (h : x ∈ spl c l) : x.length ≤ l.length := by
  induction l generalizing x with
  | nil => simp [spl] at h; simp [h]
  | cons z r ih =>
    have hne := spl_ne c r
    unfold spl at h
    split at h
    · rcases List.mem_cons.1 h with rfl | h
      · simp
      · have := ih h; simp; omega
    · cases hs : spl c r with
      | nil => exact absurd hs hne
      | cons a t =>
        rw [hs] at h
        rcases List.mem_cons.1 h with rfl | h
        · have := ih (x := a) (by rw [hs]; simp); simp; omega
        · have := ih (x := x) (by rw [hs]; simp [h]); simp; omega
theorem index_none1 {l : List UInt8} {c : UInt8} (h : Lib.index l [c] = -1) : ∀ x ∈ l, x ≠ c := by
  rw [Lib.index_one] at h
  rintro x hx rfl
  obtain ⟨i, hi, he⟩ := List.mem_iff_getElem.1 hx
  exact Lib.indexByte_none h i (by rw [List.getElem?_eq_getElem hi, he])
theorem index_some1 {l : List UInt8} {c : UInt8} {o : Nat} (h : Lib.index l [c] = o) : l = l.take o ++ c :: l.drop (o + 1) ∧ ∀ x ∈ l.take o, x ≠ c := by
  rw [Lib.index_one] at h
  obtain ⟨h1, h2⟩ := Lib.indexByte_some h
  obtain ⟨ho, he⟩ := List.getElem?_eq_some_iff.1 h1
  refine ⟨?_, ?_⟩
  · rw [← he, List.getElem_cons_drop]; exact (List.take_append_drop o l).symm
  · rintro x hx rfl
    obtain ⟨i, hi, hx⟩ := List.mem_iff_getElem.1 hx
    rw [List.length_take] at hi
    exact h2 i (by omega) (by rw [List.getElem?_eq_getElem (by omega)]; simpa using hx)
theorem splitK_spl (c : UInt8) : ∀ (k : Nat) (l : List UInt8), l.count c ≤ k → Lib.splitK [c] 0 k l = spl c l
  | 0, l, h => (spl_none fun x hx e => by have := List.count_pos_iff.2 (e ▸ hx); omega).symm
  | k + 1, l, h => by
    unfold Lib.splitK
    split
    · rename_i hi
      exact (spl_none (index_none1 (by simpa using hi))).symm
    · rename_i hi
      have hge := Lib.index_ge l [c]
      have hi' : Lib.index l [c] ≠ -1 := by simpa using hi
      obtain ⟨o, ho⟩ : ∃ o : Nat, Lib.index l [c] = o := ⟨(Lib.index l [c]).toNat, by omega⟩
      obtain ⟨e1, e2⟩ := index_some1 ho
      have hcnt : l.count c = (l.drop (o + 1)).count c + 1 := by
        have h0 : (l.take o).count c = 0 := List.count_eq_zero.2 fun hm => e2 c hm rfl
        conv => lhs; rw [e1]
        rw [List.count_append, h0]; simp
      rw [ho]
      conv => rhs; rw [e1]
      rw [spl_hit e2, ← splitK_spl c k _ (by omega)]
      simp
theorem jn_join (c : UInt8) : ∀ xs : List (List UInt8), Lib.join xs [c] = jn c xs
  | [] => rfl
  | [x] => by rw [Lib.join_one]; rfl
  | x :: y :: r => by
    have h := jn_join c (y :: r)
    rw [Lib.join_cons] at h ⊢
    show x ++ Lib.joinTail [c] (y :: r) = x ++ c :: jn c (y :: r)
    rw [← h]
    simp [Lib.joinTail]
theorem jn_len (c : UInt8) : ∀ xs : List (List UInt8), (jn c xs).length ≤ (xs.map List.length).sum + xs.length
  | [] => by simp [jn]
  | [x] => by simp [jn]
  | x :: y :: r => by
    have h := jn_len c (y :: r)
    show (x ++ c :: jn c (y :: r)).length ≤ _
    simp only [List.length_append, List.length_cons, List.map_cons, List.sum_cons] at h ⊢
    omega
/-! ### the library's functions -/
theorem cStr_len (L : List (List UInt8)) : (L.flatMap cStr).length = L.length := by
  induction L with
  | nil => rfl
  | cons a t ih => rw [List.flatMap_cons, List.length_append, ih]; show 1 + t.length = t.length + 1; omega
theorem GC.newRow {P : Program} {w0 : World} {f : FuncId} {args : Array Value} {e : TypeId} {L : List (List UInt8)} (hm : L.length ≤ maxLen)
    (h : ∀ w, Calls P f args w (fun en w' => en = .returned (.slice (some ⟨w.heap.size, 0, none⟩) L.length L.length) ∧ w' = w.alloc (.cells (L.flatMap cStr).toArray e))) :
    GC P w0 f args [] (fun v post => ∃ r g, post = [g] ∧ v = .slice (some ⟨r, 0, none⟩) L.length L.length ∧ OwnG g e 1 (some ⟨r, 0, none⟩) L.length L.length (L.flatMap cStr)) := fun fr w hS => by
  refine KC.of ((h w).mono ?_)
  rintro en w' ⟨rfl, rfl⟩
  refine ⟨_, rfl, [[pt w.heap.size e (L.flatMap cStr)]], ⟨_, _, rfl, rfl, OwnG.ofPt rfl _ hm ?_⟩, ?_⟩
  · rw [cStr_len, Nat.mul_one]
  · exact hS.add (Chg.alloc w _) _ (by simp [ids]) fun c hc => by
      rw [List.mem_singleton.1 hc]
      exact ⟨Nat.le_refl _, heap_alloc_new w _⟩
theorem map_string (L : List ByteArray) : L.map Value.string = (L.map (·.data.toList)).flatMap cStr := by
  induction L with
  | nil => rfl
  | cons a t ih => rw [List.map_cons, ih, List.map_cons, List.flatMap_cons]; show _ = [Value.string (sb a.data.toList)] ++ _; rw [sb_data]; rfl
end K
theorem genSplit_ok (w0 : World) (l : List UInt8) (c : UInt8) (hl : l.length < 4294967281) :
    K.GC Tryd.prog w0 74 #[.string (K.sb l), .string (K.sb [c]), .int .i64 0, .int .i64 (-1)] [] (fun v post => ∃ r g, post = [g] ∧ v = .slice (some ⟨r, 0, none⟩) (K.spl c l).length (K.spl c l).length ∧ K.OwnG g 9 1 (some ⟨r, 0, none⟩) (K.spl c l).length (K.spl c l).length ((K.spl c l).flatMap K.cStr)) := by
  have hcl : l.count c ≤ l.length := List.count_le_length
  have hlen := K.spl_len c l
  refine K.GC.newRow (by unfold maxLen; omega) fun w => ?_
  have hcB : Lib.countB (K.sb l) (K.sb [c]) = l.count c := by
    show Lib.count (K.sb l).data.toList (K.sb [c]).data.toList = _
    rw [K.sb_toList, K.sb_toList]; exact Lib.count_one c l
  have k := Any.strings_genSplit_core Tryd.lays221 (by kernel_rfl) (K.sb l) (K.sb [c]) 0 (-1) (l.count c + 1) w (by rw [K.sb_size]; exact hl) (by rw [K.sb_size]; exact Nat.le_refl _) (Nat.zero_le _)
    (fun x cs _ => by
      refine (Any.strings_Index_one Tryd.lays143 x c _).mono fun e w' ⟨he, hw⟩ => ⟨?_, hw⟩
      rw [he]
      show _ = Ending.returned (Value.int .i64 (Lib.index x.data.toList (K.sb [c]).data.toList))
      rw [K.sb_toList, Lib.index_one])
    (by
      refine (Any.strings_Count_one Tryd.lays138 (K.sb l) c w).mono fun e w' ⟨he, hw⟩ => ⟨?_, hw⟩
      rw [he, hcB, K.sb_toList]; rfl)
    (by decide) (by decide) (by rw [if_pos (by decide), hcB, K.sb_size]; omega)
  refine k.mono fun e w' ⟨he, hw⟩ => ?_
  have hd : (Lib.splitB (K.sb [c]) 0 (l.count c + 1 - 1) (K.sb l)).map (·.data.toList) = K.spl c l := by
    rw [Lib.splitB_data, K.sb_toList, K.sb_toList, Nat.add_sub_cancel]; exact K.splitK_spl c _ l (Nat.le_refl _)
  have hn : (Lib.splitB (K.sb [c]) 0 (l.count c + 1 - 1) (K.sb l)).length = l.count c + 1 := by
    have := congrArg List.length hd
    rw [List.length_map] at this; omega
  refine ⟨?_, ?_⟩
  · rw [he, hn, hlen]
  · rw [hw]
    unfold Lib.cellsOf
    rw [hn, Nat.sub_self, List.replicate_zero, List.append_nil, K.map_string, hd]
    rfl
theorem index1_ok (w0 : World) (l : List UInt8) (c : UInt8) : K.GC Tryd.prog w0 102 #[.string (K.sb l), .string (K.sb [c])] [] (fun v post => post = [] ∧ v = .int .i64 (Lib.index l [c])) := fun fr w hS => by
  refine K.KC.of ((Any.stringslite_Index_one Tryd.lays219 (K.sb l) c w).mono ?_)
  rintro e w' ⟨rfl, rfl⟩
  exact ⟨_, rfl, [], ⟨rfl, by rw [K.sb_toList, Lib.index_one]⟩, hS⟩
/-- Join, of a row that can be read -/
theorem join_ok (w0 : World) (a : Option Addr) (cap : Nat) (c : UInt8) (L : List (List UInt8)) (g : K.Cs) (hr : ∀ w, K.Sat w0 [g] w → K.RowE w a L.length 1 (fun i => K.cStr (L.getD i []))) (h0 : 0 < L.length) (hc : L.length ≤ cap) (hn : L.length ≤ 140737488355328) (hl : (K.jn c L).length ≤ 140737488355328) :
    K.GC Tryd.prog w0 48 #[.slice a L.length cap, .string (K.sb [c])] [g] (fun v post => post = [g] ∧ v = .string (K.sb (K.jn c L))) := fun fr w hS => by
  obtain ⟨b, off, rfl, hcell⟩ := (hr w (hS.pick [0])).at_ h0
  have hlt : b < w.heap.size := World.block_lt_of_cell? _ _ (hcell 0 h0 0 _ rfl)
  have key : (L.map K.sb).map (·.data.toList) = L := by
    rw [List.map_map]
    conv => rhs; rw [← List.map_id L]
    exact List.map_congr_left fun x _ => K.sb_toList x
  have k := Any.strings_Join Tryd.lays156 Tryd.Builder_Extra_156 b off cap (L.map K.sb) (K.sb [c]) w
    (fun j x hx => by
      rw [List.getElem?_map] at hx
      obtain ⟨y, hy, rfl⟩ := Option.map_eq_some_iff.1 hx
      have hj : j < L.length := (List.getElem?_eq_some_iff.1 hy).1
      have h := hcell j hj 0 _ rfl
      rw [List.getD_eq_getElem?_getD, hy] at h
      simpa using h)
    hlt (by rw [List.length_map]; exact hn) (by rw [List.length_map]; exact hc) (by rw [key, K.sb_toList, K.jn_join]; exact hl)
  rw [List.length_map, key, K.sb_toList, K.jn_join] at k
  refine K.KC.of (Calls.mono k ?_)
  rintro e w' ⟨rfl, hb⟩
  exact ⟨_, rfl, [g], ⟨rfl, rfl⟩, hS.no ⟨hb.os, hb.tape, hb.output, hb.size, fun k hk _ => hb.block k hk⟩⟩
end Go.Proofs.YtnehocjmgnhhhaaDoor
