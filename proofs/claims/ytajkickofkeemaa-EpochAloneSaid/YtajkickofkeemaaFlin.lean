/- Contracts: parts of a list, words and bytes. -/
import Derived.Test.YtajkickofkeemaaFlist
namespace Go.Proofs.Ytajkickofkeemaa
open Go.RowKit
set_option linter.unusedVariables false
attribute [local irreducible] K.KW K.RW K.DW K.OW K.QR K.KC

/-- byte i of a word -/
def byteAt (w : Int) (i : Nat) : Int := w / 2 ^ (8 * i) % 256
def bytesT (w : Int) (k : Nat) : List Int := (List.range k).map (byteAt w)
theorem bytesT_succ (w : Int) (k : Nat) : bytesT w (k + 1) = bytesT w k ++ [byteAt w k] := by unfold bytesT; rw [List.range_succ, List.map_append]; rfl
theorem bytesT_len (w : Int) (k : Nat) : (bytesT w k).length = k := by simp [bytesT]
/-- the word of bytes -/
def wordLE : List Int → Int
 | [] => 0
 | b :: bs => b + 256 * wordLE bs
def isByte (x : Int) : Prop := 0 ≤ x ∧ x ≤ 255
def allBytes (xs : List Int) : Prop := ∀ x ∈ xs, isByte x
def isWord (x : Int) : Prop := 0 ≤ x ∧ x ≤ 18446744073709551615
def allWords (xs : List Int) : Prop := ∀ x ∈ xs, isWord x
theorem getD_byte {xs : List Int} (h : allBytes xs) (i : Nat) : 0 ≤ xs.getD i 0 ∧ xs.getD i 0 ≤ 255 := by
 rw [List.getD_eq_getElem?_getD]
 by_cases hi : i < xs.length
 ·rw [List.getElem?_eq_getElem hi]; exact h _ (List.getElem_mem hi)
 ·rw [List.getElem?_eq_none (by omega)]; exact ⟨by simp, by simp⟩
theorem getD_word {xs : List Int} (h : allWords xs) (i : Nat) : 0 ≤ xs.getD i 0 ∧ xs.getD i 0 ≤ 18446744073709551615 := by
 rw [List.getD_eq_getElem?_getD]
 by_cases hi : i < xs.length
 ·rw [List.getElem?_eq_getElem hi]; exact h _ (List.getElem_mem hi)
 ·rw [List.getElem?_eq_none (by omega)]; exact ⟨by simp, by simp⟩
theorem allBytes_sub {xs ys : List Int} (h : allBytes xs) (hs : ∀ x ∈ ys, x ∈ xs) : allBytes ys := fun x hx => h x (hs x hx)
theorem wordLE_bd : ∀ {xs : List Int}, allBytes xs → 0 ≤ wordLE xs ∧ wordLE xs < 2 ^ (8 * xs.length)
 | [], _ => by simp [wordLE]
 | b :: bs, h => by
  have h1 := wordLE_bd (xs := bs) (fun x hx => h x (by simp [hx]))
  have h2 : 0 ≤ b ∧ b ≤ 255 := h b (by simp)
  have h3 : (2 : Int) ^ (8 * (b :: bs).length) = 256 * 2 ^ (8 * bs.length) := by
   rw [List.length_cons, show 8 * (bs.length + 1) = 8 * bs.length + 8 by omega, Int.pow_add]; omega
  rw [h3]
  show 0 ≤ b + 256 * wordLE bs ∧ b + 256 * wordLE bs < _
  omega
theorem wordLE_snoc : ∀ (xs : List Int) (b : Int), wordLE (xs ++ [b]) = wordLE xs + b * 2 ^ (8 * xs.length)
 | [], b => by simp [wordLE]
 | x :: xs, b => by
  show x + 256 * wordLE (xs ++ [b]) = x + 256 * wordLE xs + _
  rw [wordLE_snoc xs b]
  have h3 : (2 : Int) ^ (8 * (x :: xs).length) = 256 * 2 ^ (8 * xs.length) := by
   rw [List.length_cons, show 8 * (xs.length + 1) = 8 * xs.length + 8 by omega, Int.pow_add]; omega
  rw [h3, Int.mul_add, ← Int.add_assoc]
  congr 1
  rw [← Int.mul_assoc, Int.mul_comm 256 b, Int.mul_assoc]
theorem wrap64_of {x : Int} (h : 0 ≤ x ∧ x ≤ 18446744073709551615) : IntKind.u64.wrap x = x := IntWalk.u64_in x h
theorem shl_of {b : Int} {m : Nat} (h : 0 ≤ b * 2 ^ m ∧ b * 2 ^ m ≤ 18446744073709551615) : K.shlN .u64 b m = b * 2 ^ m := wrap64_of h
theorem or_nat (W Y : Nat) (hW : W < 2 ^ 64) (hY : Y < 2 ^ 64) : K.orK .u64 (W : Int) (Y : Int) = ((W ||| Y : Nat) : Int) := by
 have h1 : (BitVec.ofInt 64 (W : Int) ||| BitVec.ofInt 64 (Y : Int)).toNat = W ||| Y := by
  rw [BitVec.toNat_or, BitVec.ofInt_natCast, BitVec.ofInt_natCast, BitVec.toNat_ofNat, BitVec.toNat_ofNat, Nat.mod_eq_of_lt hW, Nat.mod_eq_of_lt hY]
 have h2 : W ||| Y < 2 ^ 64 := Nat.or_lt_two_pow hW hY
 unfold K.orK
 show IntKind.u64.wrap ((((BitVec.ofInt 64 (W : Int) ||| BitVec.ofInt 64 (Y : Int)).toNat : Nat)) : Int) = _
 rw [h1]
 exact wrap64_of (by omega)
theorem pow_mono {i j : Nat} (h : i ≤ j) : (2 : Int) ^ i ≤ 2 ^ j := by
 have := Nat.pow_le_pow_right (n := 2) (by decide) h
 have h2 : ((2 ^ i : Nat) : Int) ≤ ((2 ^ j : Nat) : Int) := by omega
 simpa using h2
theorem or_shl {w b : Int} {i : Nat} (hw : 0 ≤ w ∧ w < 2 ^ (8 * i)) (hb : 0 ≤ b ∧ b ≤ 255) (hi : i < 8) : K.orK .u64 w (K.shlN .u64 b (8 * i)) = w + b * 2 ^ (8 * i) := by
 obtain ⟨W, rfl⟩ : ∃ W : Nat, w = W := ⟨w.toNat, by omega⟩
 obtain ⟨B, rfl⟩ : ∃ B : Nat, b = B := ⟨b.toNat, by omega⟩
 have hB : B < 2 ^ 8 := by omega
 have hW : W < 2 ^ (8 * i) := by
  have : ((W : Nat) : Int) < ((2 ^ (8 * i) : Nat) : Int) := by simpa using hw.2
  omega
 have hp : (2 : Nat) ^ (8 * i) ≤ 2 ^ 56 := Nat.pow_le_pow_right (by decide) (by omega)
 have hm : B * 2 ^ (8 * i) ≤ 255 * 2 ^ 56 := Nat.mul_le_mul (by omega) hp
 have e : ((B : Int)) * 2 ^ (8 * i) = ((B * 2 ^ (8 * i) : Nat) : Int) := by simp
 rw [shl_of (by rw [e]; omega), e, or_nat W _ (by omega) (by omega), ← Nat.shiftLeft_eq, Nat.or_comm, ← Nat.shiftLeft_add_eq_or_of_lt hW]
 omega
theorem take_snoc0 {xs : List Int} {k : Nat} (h : k < xs.length) : xs.take (k + 1) = xs.take k ++ [xs.getD k 0] := by
 rw [List.take_succ_eq_append_getElem h]; simp [h]
theorem mem_take {xs : List Int} {k : Nat} : ∀ x ∈ xs.take k, x ∈ xs := fun x hx => List.mem_of_mem_take hx
theorem mem_drop {xs : List Int} {k : Nat} : ∀ x ∈ xs.drop k, x ∈ xs := fun x hx => List.mem_of_mem_drop hx
theorem word_step {xs : List Int} (h : allBytes xs) {i : Nat} (hi : i < 8) (hl : i < xs.length) : K.orK .u64 (wordLE (xs.take i)) (K.shlN .u64 (xs.getD i 0) (8 * i)) = wordLE (xs.take (i + 1)) := by
 have hb := wordLE_bd (allBytes_sub h (mem_take (k := i)))
 have hlen : (xs.take i).length = i := by rw [List.length_take]; omega
 rw [hlen] at hb
 rw [or_shl hb (getD_byte h i) hi, take_snoc0 hl, wordLE_snoc, hlen]
theorem wrap8_of (x : Int) : IntKind.u8.wrap x = x % 256 := by simp [IntKind.wrap, IntKind.bits, IntKind.signed]
theorem byteAt_bd (w : Int) (i : Nat) : 0 ≤ byteAt w i ∧ byteAt w i ≤ 255 := by unfold byteAt; omega
theorem byte_of (w : Int) (i : Nat) : IntKind.u8.wrap (w / 2 ^ (8 * i)) = byteAt w i := wrap8_of _
theorem div_step (w : Int) (k : Nat) : w / 2 ^ (8 * k) / 256 = w / 2 ^ (8 * (k + 1)) := by
 rw [show 8 * (k + 1) = 8 * k + 8 by omega, Int.pow_add, Int.ediv_ediv_of_nonneg (Int.le_of_lt (Int.pow_pos (by decide)))]
 rfl
theorem div_bd {w : Int} (h : 0 ≤ w ∧ w ≤ 18446744073709551615) (k : Nat) : 0 ≤ w / 2 ^ k ∧ w / 2 ^ k ≤ 18446744073709551615 := by
 have hp : (0 : Int) < 2 ^ k := Int.pow_pos (by decide)
 exact ⟨Int.ediv_nonneg h.1 (Int.le_of_lt hp), Int.le_trans (Int.ediv_le_self _ h.1) h.2⟩
/-- the words' bytes -/
def bytesL (ws : List Int) : List Int := ws.flatMap fun w => bytesT w 8
theorem bytesL_snoc (ws : List Int) (w : Int) : bytesL (ws ++ [w]) = bytesL ws ++ bytesT w 8 := by unfold bytesL; simp
theorem bytesL_len (ws : List Int) : (bytesL ws).length = 8 * ws.length := by
 unfold bytesL
 induction ws with
 | nil => rfl
 | cons w ws ih => rw [List.flatMap_cons, List.length_append, ih, bytesT_len, List.length_cons]; omega
theorem bytesL_bytes (ws : List Int) : allBytes (bytesL ws) := by
 intro x hx
 obtain ⟨w, _, hx⟩ := List.mem_flatMap.1 hx
 obtain ⟨i, _, rfl⟩ := List.mem_map.1 hx
 exact byteAt_bd w i
theorem bytesL_take {ws : List Int} {k : Nat} (h : k < ws.length) : bytesL (ws.take (k + 1)) = bytesL (ws.take k) ++ bytesT (ws.getD k 0) 8 := by rw [take_snoc0 h, bytesL_snoc]
/-- the i-th word of bytes -/
def wordNo (bs : List Int) (i : Nat) : Int := wordLE ((bs.drop (8 * i)).take 8)
def wordsT (bs : List Int) (k : Nat) : List Int := (List.range k).map (wordNo bs)
theorem wordsT_succ (bs : List Int) (k : Nat) : wordsT bs (k + 1) = wordsT bs k ++ [wordNo bs k] := by unfold wordsT; rw [List.range_succ, List.map_append]; rfl
theorem wordsT_len (bs : List Int) (k : Nat) : (wordsT bs k).length = k := by simp [wordsT]
/-- the words of bytes -/
def wordsL (bs : List Int) : List Int := wordsT bs (bs.length / 8)

/-- a line's cells -/
def cLine (l : List Int) : List Value := [.int .u64 (l.getD 0 0), .int .u64 (l.getD 1 0), .int .u64 (l.getD 2 0), .int .u64 (l.getD 3 0), .int .u64 (l.getD 4 0), .int .u64 (l.getD 5 0), .int .u64 (l.getD 6 0), .int .u64 (l.getD 7 0)]
theorem line_cell {l : List Int} {i : Nat} (h : i < 8) : (cLine l)[i]? = some (.int .u64 (l.getD i 0)) := by
 have : i = 0 ∨ i = 1 ∨ i = 2 ∨ i = 3 ∨ i = 4 ∨ i = 5 ∨ i = 6 ∨ i = 7 := by omega
 rcases this with rfl | rfl | rfl | rfl | rfl | rfl | rfl | rfl <;> rfl
theorem line_get {l : List Int} {i : Nat} (h : i < 8) : (cLine l)[((i : Nat) : Int).toNat]? = some (.int .u64 (l.getD i 0)) := by
 rw [Int.toNat_natCast]
 match i, h with
 | 0, _ => rfl
 | 1, _ => rfl
 | 2, _ => rfl
 | 3, _ => rfl
 | 4, _ => rfl
 | 5, _ => rfl
 | 6, _ => rfl
 | 7, _ => rfl
/-- a list as a line -/
def ln8 (l : List Int) : List Int := [l.getD 0 0, l.getD 1 0, l.getD 2 0, l.getD 3 0, l.getD 4 0, l.getD 5 0, l.getD 6 0, l.getD 7 0]
theorem ln8_get {l : List Int} {k : Nat} (h : k < 8) : (ln8 l).getD k 0 = l.getD k 0 := by
 match k, h with
 | 0, _ => rfl
 | 1, _ => rfl
 | 2, _ => rfl
 | 3, _ => rfl
 | 4, _ => rfl
 | 5, _ => rfl
 | 6, _ => rfl
 | 7, _ => rfl
theorem ln8_words {l : List Int} (h : allWords l) : allWords (ln8 l) := by
 intro x hx
 unfold ln8 at hx
 simp only [List.mem_cons, List.not_mem_nil, or_false] at hx
 rcases hx with rfl | rfl | rfl | rfl | rfl | rfl | rfl | rfl <;> exact getD_word h _
theorem ln8_of {l : List Int} (h : l.length = 8) : ln8 l = l := by
 match l, h with
 | [_, _, _, _, _, _, _, _], _ => rfl
theorem own_le_cap {w : World} {base : Nat} {e : TypeId} {size : Nat} {a : Option Addr} {n cap : Nat} {xs : List Value} (h : K.Own w base e size a n cap xs) : n ≤ cap := by
 rcases h.2 with ⟨h1, h2⟩ | ⟨g, cap', cur, h1, h2, h3, h4, _⟩
 ·omega
 ·simp only [Value.slice.injEq] at h1; omega
abbrev RLn (w : World) (a : Option Addr) (l : List (List Int)) : Prop := K.RowE w a l.length 8 (fun i => cLine (l.getD i []))
theorem parts_end {n k sz m : Nat} (h : m = n - k * sz) (hk : k * sz ≤ n) (hm : m < sz) : k = n / sz := by
 refine (Nat.div_eq_of_lt_le (by omega) ?_).symm
 rw [Nat.succ_mul]; omega
theorem parts_lt {n k sz m : Nat} (h : m = n - k * sz) (hk : k * sz ≤ n) (hs : 0 < sz) (hm : sz ≤ m) : k < n / sz :=
 (Nat.le_div_iff_mul_le hs).2 (by rw [Nat.succ_mul]; omega)

/-- a line of which so many words are read -/
def rdT (xs : List Int) (k : Nat) : List Int := wordsT xs k ++ List.replicate (8 - k) 0
theorem rdT_len {xs : List Int} {k : Nat} (h : k ≤ 8) : (rdT xs k).length = 8 := by unfold rdT; simp [wordsT_len]; omega
theorem rdT_set {xs : List Int} {k : Nat} (h : k < 8) : (rdT xs k).set k (wordNo xs k) = rdT xs (k + 1) := by
 unfold rdT
 rw [List.set_append_right _ _ (by rw [wordsT_len]; exact Nat.le_refl _), wordsT_len, Nat.sub_self, show 8 - k = (8 - (k + 1)) + 1 by omega, List.replicate_succ, List.set_cons_zero, wordsT_succ]
 simp
theorem rdT_8 (xs : List Int) : rdT xs 8 = wordsT xs 8 := by unfold rdT; simp

end Go.Proofs.Ytajkickofkeemaa
