/- Contracts: parts of a list, words and bytes. -/
import Derived.Test.YtcmlompigmhddaaFlist
namespace Go.Proofs.Ytcmlompigmhddaa
open Go.RowKit
set_option linter.unusedVariables false
attribute [local irreducible] K.KW K.RW K.DW K.OW K.QR K.KC

/-- byte i of a word -/
def byteAt (w : Int) (i : Nat) : Int := w / 2 ^ (8 * i) % 256
def bytesT (w : Int) (k : Nat) : List Int := (List.range k).map (byteAt w)
theorem bytesT_succ (w : Int) (k : Nat) : bytesT w (k + 1) = bytesT w k ++ [byteAt w k] := by unfold bytesT; rw [List.range_succ, List.map_append]; rfl
theorem bytesT_len (w : Int) (k : Nat) : (bytesT w k).length = k := by simp [bytesT]
/-- the word of bytes -/
def wordLE : List Int → Int
  | [] => 0
  | b :: bs => b + 256 * wordLE bs
def isByte (x : Int) : Prop := 0 ≤ x ∧ x ≤ 255
def allBytes (xs : List Int) : Prop := ∀ x ∈ xs, isByte x
def isWord (x : Int) : Prop := 0 ≤ x ∧ x ≤ 18446744073709551615
def allWords (xs : List Int) : Prop := ∀ x ∈ xs, isWord x
theorem getD_byte {xs : List Int} (h : allBytes xs) (i : Nat) : 0 ≤ xs.getD i 0 ∧ xs.getD i 0 ≤ 255 := by
  rw [List.getD_eq_getElem?_getD]
  by_cases hi : i < xs.length
  · rw [List.getElem?_eq_getElem hi]; exact h _ (List.getElem_mem hi)
  · rw [List.getElem?_eq_none (by omega)]; exact ⟨by simp, by simp⟩
theorem getD_word {xs : List Int} (h : allWords xs) (i : Nat) : 0 ≤ xs.getD i 0 ∧ xs.getD i 0 ≤ 18446744073709551615 := by
  rw [List.getD_eq_getElem?_getD]
  by_cases hi : i < xs.length
  · rw [List.getElem?_eq_getElem hi]; exact h _ (List.getElem_mem hi)
  · rw [List.getElem?_eq_none (by omega)]; exact ⟨by simp, by simp⟩
theorem allBytes_sub {xs ys : List Int} (h : allBytes xs) (hs : ∀ x ∈ ys, x ∈ xs) : allBytes ys := fun x hx => h x (hs x hx)
theorem wordLE_bd : ∀ {xs : List Int}, allBytes xs → 0 ≤ wordLE xs ∧ wordLE xs < 2 ^ (8 * xs.length)
  | [], _ => by simp [wordLE]
  | b :: bs, h => by
    have h1 := wordLE_bd (xs := bs) (fun x hx => h x (by simp [hx]))
    have h2 : 0 ≤ b ∧ b ≤ 255 := h b (by simp)
    have h3 : (2 : Int) ^ (8 * (b :: bs).length) = 256 * 2 ^ (8 * bs.length) := by
      rw [List.length_cons, show 8 * (bs.length + 1) = 8 * bs.length + 8 by omega, Int.pow_add]; omega
    rw [h3]
    show 0 ≤ b + 256 * wordLE bs ∧ b + 256 * wordLE bs < _
    omega
theorem wordLE_snoc : ∀ (xs : List Int) (b : Int), wordLE (xs ++ [b]) = wordLE xs + b * 2 ^ (8 * xs.length)
  | [], b => by simp [wordLE]
  | x :: xs, b => by
    show x + 256 * wordLE (xs ++ [b]) = x + 256 * wordLE xs + _
    rw [wordLE_snoc xs b]
    have h3 : (2 : Int) ^ (8 * (x :: xs).length) = 256 * 2 ^ (8 * xs.length) := by
      rw [List.length_cons, show 8 * (xs.length + 1) = 8 * xs.length + 8 by omega, Int.pow_add]; omega
    rw [h3, Int.mul_add, ← Int.add_assoc]
    congr 1
    rw [← Int.mul_assoc, Int.mul_comm 256 b, Int.mul_assoc]
theorem wrap64_of {x : Int} (h : 0 ≤ x ∧ x ≤ 18446744073709551615) : IntKind.u64.wrap x = x := IntWalk.u64_in x h
theorem shl_of {b : Int} {m : Nat} (h : 0 ≤ b * 2 ^ m ∧ b * 2 ^ m ≤ 18446744073709551615) : K.shlN .u64 b m = b * 2 ^ m := wrap64_of h
theorem or_nat (W Y : Nat) (hW : W < 2 ^ 64) (hY : Y < 2 ^ 64) : K.orK .u64 (W : Int) (Y : Int) = ((W ||| Y : Nat) : Int) := by
  have h1 : (BitVec.ofInt 64 (W : Int) ||| BitVec.ofInt 64 (Y : Int)).toNat = W ||| Y := by
    rw [BitVec.toNat_or, BitVec.ofInt_natCast, BitVec.ofInt_natCast, BitVec.toNat_ofNat, BitVec.toNat_ofNat, Nat.mod_eq_of_lt hW, Nat.mod_eq_of_lt hY]
  have h2 : W ||| Y < 2 ^ 64 := Nat.or_lt_two_pow hW hY
  unfold K.orK
  show IntKind.u64.wrap ((((BitVec.ofInt 64 (W : Int) ||| BitVec.ofInt 64 (Y : Int)).toNat : Nat)) : Int) = _
  rw [h1]
  exact wrap64_of (by omega)
theorem pow_mono {i j : Nat} (h : i ≤ j) : (2 : Int) ^ i ≤ 2 ^ j := by
  have := Nat.pow_le_pow_right (n := 2) (by decide) h
  have h2 : ((2 ^ i : Nat) : Int) ≤ ((2 ^ j : Nat) : Int) := by omega
  simpa using h2
theorem or_shl {w b : Int} {i : Nat} (hw : 0 ≤ w ∧ w < 2 ^ (8 * i)) (hb : 0 ≤ b ∧ b ≤ 255) (hi : i < 8) : K.orK .u64 w (K.shlN .u64 b (8 * i)) = w + b * 2 ^ (8 * i) := by
  obtain ⟨W, rfl⟩ : ∃ W : Nat, w = W := ⟨w.toNat, by omega⟩
  obtain ⟨B, rfl⟩ : ∃ B : Nat, b = B := ⟨b.toNat, by omega⟩
  have hB : B < 2 ^ 8 := by omega
  have hW : W < 2 ^ (8 * i) := by
    have : ((W : Nat) : Int) < ((2 ^ (8 * i) : Nat) : Int) := by simpa using hw.2
    omega
  have hp : (2 : Nat) ^ (8 * i) ≤ 2 ^ 56 := Nat.pow_le_pow_right (by decide) (by omega)
  have hm : B * 2 ^ (8 * i) ≤ 255 * 2 ^ 56 := Nat.mul_le_mul (by omega) hp
  have e : ((B : Int)) * 2 ^ (8 * i) = ((B * 2 ^ (8 * i) : Nat) : Int) := by simp
  rw [shl_of (by rw [e]; omega), e, or_nat W _ (by omega) (by omega), ← Nat.shiftLeft_eq, Nat.or_comm, ← Nat.shiftLeft_add_eq_or_of_lt hW]
  omega
theorem take_snoc0 {xs : List Int} {k : Nat} (h : k < xs.length) : xs.take (k + 1) = xs.take k ++ [xs.getD k 0] := by
  rw [List.take_succ_eq_append_getElem h]; simp [h]
theorem mem_take {xs : List Int} {k : Nat} : ∀ x ∈ xs.take k, x ∈ xs := fun x hx => List.mem_of_mem_take hx
theorem mem_drop {xs : List Int} {k : Nat} : ∀ x ∈ xs.drop k, x ∈ xs := fun x hx => List.mem_of_mem_drop hx
theorem word_step {xs : List Int} (h : allBytes xs) {i : Nat} (hi : i < 8) (hl : i < xs.length) : K.orK .u64 (wordLE (xs.take i)) (K.shlN .u64 (xs.getD i 0) (8 * i)) = wordLE (xs.take (i + 1)) := by
  have hb := wordLE_bd (allBytes_sub h (mem_take (k := i)))
  have hlen : (xs.take i).length = i := by rw [List.length_take]; omega
  rw [hlen] at hb
  rw [or_shl hb (getD_byte h i) hi, take_snoc0 hl, wordLE_snoc, hlen]
theorem wrap8_of (x : Int) : IntKind.u8.wrap x = x % 256 := by simp [IntKind.wrap, IntKind.bits, IntKind.signed]
theorem byteAt_bd (w : Int) (i : Nat) : 0 ≤ byteAt w i ∧ byteAt w i ≤ 255 := by unfold byteAt; omega
theorem byte_of (w : Int) (i : Nat) : IntKind.u8.wrap (w / 2 ^ (8 * i)) = byteAt w i := wrap8_of _
theorem div_step (w : Int) (k : Nat) : w / 2 ^ (8 * k) / 256 = w / 2 ^ (8 * (k + 1)) := by
  rw [show 8 * (k + 1) = 8 * k + 8 by omega, Int.pow_add, Int.ediv_ediv_of_nonneg (Int.le_of_lt (Int.pow_pos (by decide)))]
  rfl
theorem div_bd {w : Int} (h : 0 ≤ w ∧ w ≤ 18446744073709551615) (k : Nat) : 0 ≤ w / 2 ^ k ∧ w / 2 ^ k ≤ 18446744073709551615 := by
  have hp : (0 : Int) < 2 ^ k := Int.pow_pos (by decide)
  exact ⟨Int.ediv_nonneg h.1 (Int.le_of_lt hp), Int.le_trans (Int.ediv_le_self _ h.1) h.2⟩
/-- the words' bytes -/
def bytesL (ws : List Int) : List Int := ws.flatMap fun w => bytesT w 8
theorem bytesL_snoc (ws : List Int) (w : Int) : bytesL (ws ++ [w]) = bytesL ws ++ bytesT w 8 := by unfold bytesL; simp
theorem bytesL_len (ws : List Int) : (bytesL ws).length = 8 * ws.length := by
  unfold bytesL
  induction ws with
  | nil => rfl
  | cons w ws ih => rw [List.flatMap_cons, List.length_append, ih, bytesT_len, List.length_cons]; omega
theorem bytesL_bytes (ws : List Int) : allBytes (bytesL ws) := by
  intro x hx
  obtain ⟨w, _, hx⟩ := List.mem_flatMap.1 hx
  obtain ⟨i, _, rfl⟩ := List.mem_map.1 hx
  exact byteAt_bd w i
theorem bytesL_take {ws : List Int} {k : Nat} (h : k < ws.length) : bytesL (ws.take (k + 1)) = bytesL (ws.take k) ++ bytesT (ws.getD k 0) 8 := by rw [take_snoc0 h, bytesL_snoc]
/-- the i-th word of bytes -/
def wordNo (bs : List Int) (i : Nat) : Int := wordLE ((bs.drop (8 * i)).take 8)
def wordsT (bs : List Int) (k : Nat) : List Int := (List.range k).map (wordNo bs)
theorem wordsT_succ (bs : List Int) (k : Nat) : wordsT bs (k + 1) = wordsT bs k ++ [wordNo bs k] := by unfold wordsT; rw [List.range_succ, List.map_append]; rfl
theorem wordsT_len (bs : List Int) (k : Nat) : (wordsT bs k).length = k := by simp [wordsT]
/-- the words of bytes -/
def wordsL (bs : List Int) : List Int := wordsT bs (bs.length / 8)

/-- a line's cells -/
def cLine (l : List Int) : List Value := [.int .u64 (l.getD 0 0), .int .u64 (l.getD 1 0), .int .u64 (l.getD 2 0), .int .u64 (l.getD 3 0), .int .u64 (l.getD 4 0), .int .u64 (l.getD 5 0), .int .u64 (l.getD 6 0), .int .u64 (l.getD 7 0)]
theorem line_cell {l : List Int} {i : Nat} (h : i < 8) : (cLine l)[i]? = some (.int .u64 (l.getD i 0)) := by
  have : i = 0 ∨ i = 1 ∨ i = 2 ∨ i = 3 ∨ i = 4 ∨ i = 5 ∨ i = 6 ∨ i = 7 := by omega
  rcases this with rfl | rfl | rfl | rfl | rfl | rfl | rfl | rfl <;> rfl
theorem line_get {l : List Int} {i : Nat} (h : i < 8) : (cLine l)[((i : Nat) : Int).toNat]? = some (.int .u64 (l.getD i 0)) := by
  rw [Int.toNat_natCast]
  match i, h with
  | 0, _ => rfl
  | 1, _ => rfl
  | 2, _ => rfl
  | 3, _ => rfl
  | 4, _ => rfl
  | 5, _ => rfl
  | 6, _ => rfl
  | 7, _ => rfl
/-- a list as a line -/
def ln8 (l : List Int) : List Int := [l.getD 0 0, l.getD 1 0, l.getD 2 0, l.getD 3 0, l.getD 4 0, l.getD 5 0, l.getD 6 0, l.getD 7 0]
theorem ln8_get {l : List Int} {k : Nat} (h : k < 8) : (ln8 l).getD k 0 = l.getD k 0 := by
  match k, h with
  | 0, _ => rfl
  | 1, _ => rfl
  | 2, _ => rfl
  | 3, _ => rfl
  | 4, _ => rfl
  | 5, _ => rfl
  | 6, _ => rfl
  | 7, _ => rfl
theorem ln8_words {l : List Int} (h : allWords l) : allWords (ln8 l) := by
  intro x hx
  unfold ln8 at hx
  simp only [List.mem_cons, List.not_mem_nil, or_false] at hx
  rcases hx with rfl | rfl | rfl | rfl | rfl | rfl | rfl | rfl <;> exact getD_word h _
theorem ln8_of {l : List Int} (h : l.length = 8) : ln8 l = l := by
  match l, h with
  | [_, _, _, _, _, _, _, _], _ => rfl
theorem own_le_cap {w : World} {base : Nat} {e : TypeId} {size : Nat} {a : Option Addr} {n cap : Nat} {xs : List Value} (h : K.Own w base e size a n cap xs) : n ≤ cap := by
  rcases h.2 with ⟨h1, h2⟩ | ⟨g, cap', cur, h1, h2, h3, h4, _⟩
  · omega
  · simp only [Value.slice.injEq] at h1; omega
abbrev RLn (w : World) (a : Option Addr) (l : List (List Int)) : Prop := K.RowE w a l.length 8 (fun i => cLine (l.getD i []))
theorem parts_end {n k sz m : Nat} (h : m = n - k * sz) (hk : k * sz ≤ n) (hm : m < sz) : k = n / sz := by
  refine (Nat.div_eq_of_lt_le (by omega) ?_).symm
  rw [Nat.succ_mul]; omega
theorem parts_lt {n k sz m : Nat} (h : m = n - k * sz) (hk : k * sz ≤ n) (hs : 0 < sz) (hm : sz ≤ m) : k < n / sz :=
  (Nat.le_div_iff_mul_le hs).2 (by rw [Nat.succ_mul]; omega)

set_option maxHeartbeats 1000000 in
set_option maxRecDepth 100000 in
theorem word_ok (a : Option Addr) (cap n : Nat) (xs : List Int) (w0 : World) (hn : xs.length = n) (h8 : n = 8) (hb : allBytes xs) (hx : K.RowE w0 a n 1 (fun i => cU8 (xs.getD i 0))) :
    K.KC Try.prog 52 #[.slice a n cap] w0 (fun v w' => v = .int .u64 (wordLE xs) ∧ K.Chg K.No w0 w') := by
  refine K.KC.mk (n := 20) Try.func52 rfl rfl [.slice a n cap] rfl rfl ?_
  refine K.KW.seq ?_
  -- region 0 lines.go:41
  refine K.KW.region ?_
  refine K.RW.q rfl rfl (K.QR.k (v := .int .u64 0) (by kernel_rfl)) ?_
  refine K.RW.nil ?_
  refine K.thn_normal ?_
  refine K.KW.seq ?_
  -- region 1 lines.go:42
  refine K.KW.region ?_
  refine K.RW.q rfl rfl (K.QR.k (v := .int .u64 0) (by kernel_rfl)) ?_
  refine K.RW.nil ?_
  refine K.thn_normal ?_
  refine K.KW.seq ?_
  refine K.KW.seq ?_
  -- region 2 lines.go:43
  refine K.KW.region ?_
  refine K.RW.q rfl rfl (K.QR.k (v := .int .i64 0) (by kernel_rfl)) ?_
  refine K.RW.nil ?_
  refine K.thn_normal ?_
  refine K.KW.block ?_
  refine K.KW.loop (fun m_ F_ w_1 => ∃ (i : Nat), m_ = 8 - i ∧ K.Sl F_ [(0, .slice a n cap), (2, .int .u64 0), (3, .int .u64 (wordLE (xs.take i))), (5, .int .i64 ((i : Nat) : Int)), (20, undef)] ∧ i ≤ 8 ∧ K.Chg K.No w0 w_1) ((fun (i : Nat) => 8 - i) 0) ?_ ?_
  · -- the loop begins
    exact ⟨0, rfl, ⟨by rfl, by rfl, by rfl, by rfl, by rfl, trivial⟩, (by omega), (K.Chg.refl _)⟩
  · -- a round
    intro m_2 F_3 w_1 hI
    obtain ⟨i, rfl, sl_4, p_6, c_5⟩ := hI
    rw [← K.Sl.puts sl_4]; clear sl_4
    have z_7 := c_5.size
    have hbd := getD_byte hb i
    refine K.KW.seq ?_
    -- region 3 lines.go:43
    refine K.KW.region ?_
    by_cases h_8 : (((i : Nat) : Int) : Int) < (8 : Int)
    ·  -- yes
      refine K.RW.q rfl rfl (K.QR.nice (v := .bool (decide ((((i : Nat) : Int) : Int) < (8 : Int)))) (by kernel_rfl) (congrArg Value.bool (decide_eq_true h_8))) ?_
      refine K.RW.nil ?_
      refine K.thn_normal ?_
      refine K.KW.seq ?_
      refine K.KW.ifT rfl ?_
      refine K.KW.skip ?_
      refine K.thn_normal ?_
      refine K.KW.seq ?_
      refine K.KW.block ?_
      refine K.KW.seq ?_
      -- region 4 lines.go:43
      refine K.KW.region ?_
      refine K.RW.q rfl rfl (K.QR.k (v := .int .i64 ((i : Nat) : Int)) (by kernel_rfl)) ?_
      refine K.RW.q rfl rfl (K.QR.k (v := .int .i64 ((i : Nat) : Int)) (by kernel_rfl)) ?_
      refine K.RW.nil ?_
      refine K.thn_normal ?_
      -- region 5 lines.go:44
      obtain ⟨b_9, of_10, rfl, _⟩ := hx.at_ (by omega)
      refine K.KW.region ?_
      refine K.RW.q rfl rfl (K.QR.k (v := .int .u64 (wordLE (xs.take i))) (by kernel_rfl)) ?_
      refine K.RW.q rfl rfl (K.QR.k (v := .slice (some ⟨b_9, of_10, none⟩) n cap) (by kernel_rfl)) ?_
      refine K.RW.q rfl rfl (K.QR.k (v := .int .i64 ((i : Nat) : Int)) (by kernel_rfl)) ?_
      refine K.RW.q rfl rfl (K.QR.ix (of_10 + i * 1) 1 rfl rfl rfl Try.underlying25 (by kernel_rfl) (by omega) (by first | (simp; done) | omega | (simp; omega))) ?_
      refine K.RW.q rfl rfl (K.QR.ld1 (v := .int .u8 (xs.getD i 0)) rfl rfl (by kernel_rfl) (c_5.cell (hx.ld i (by omega) 0 _ rfl) id)) ?_
      refine K.RW.q rfl rfl (K.QR.nice (v := .int .u64 (IntKind.u64.wrap (xs.getD i 0))) (by kernel_rfl) (congrArg (Value.int .u64) (IntWalk.u64_in _ (by omega)))) ?_
      refine K.RW.q rfl rfl (K.QR.k (v := .int .i64 ((i : Nat) : Int)) (by kernel_rfl)) ?_
      refine K.RW.q rfl rfl (K.QR.n64 ((8 : Int) * (((i : Nat) : Int) : Int)) ((8 * i : Nat) : Int) (by kernel_rfl) (by omega)) ?_
      refine K.RW.q rfl rfl (K.QR.shl (m := (8 * i)) rfl rfl rfl (by show _ ≤ 64; omega)) ?_
      refine K.RW.q rfl rfl (K.QR.turn (v := .int .u64 (K.orK .u64 (wordLE (xs.take i)) (K.shlN .u64 (xs.getD i 0) (8 * i)))) (K.QR.or rfl rfl rfl) (congrArg (Value.int .u64) (show (K.orK .u64 (wordLE (xs.take i)) (K.shlN .u64 (xs.getD i 0) (8 * i)) : Int) = (wordLE (xs.take (i + 1)) : Int) from by exact word_step hb (by omega) (by omega)))) ?_
      refine K.RW.q rfl rfl (K.QR.k (v := .int .u64 (wordLE (xs.take (i + 1)))) (by kernel_rfl)) ?_
      refine K.RW.nil ?_
      refine K.blk_normal ?_
      refine K.thn_normal ?_
      -- region 6 lines.go:43
      refine K.KW.region ?_
      refine K.RW.q rfl rfl (K.QR.n64 ((((i : Nat) : Int) : Int) + (1 : Int)) ((i + 1 : Nat) : Int) (by kernel_rfl) (by omega)) ?_
      refine K.RW.q rfl rfl (K.QR.k (v := .int .i64 ((i + 1 : Nat) : Int)) (by kernel_rfl)) ?_
      refine K.RW.nil ?_
      refine K.thn_normal ?_
      refine ⟨_, ?_, i + 1, rfl, ⟨by rfl, by rfl, by rfl, by rfl, by rfl, trivial⟩, (by omega), c_5⟩
      omega
    ·  -- no
      refine K.RW.q rfl rfl (K.QR.nice (v := .bool (decide ((((i : Nat) : Int) : Int) < (8 : Int)))) (by kernel_rfl) (congrArg Value.bool (decide_eq_false h_8))) ?_
      refine K.RW.nil ?_
      refine K.thn_normal ?_
      refine K.KW.seq ?_
      refine K.KW.ifF rfl ?_
      refine K.KW.exit ?_
      refine K.thn_exit ?_
      refine K.thn_exit ?_
      refine K.blk_hit ?_
      refine K.thn_normal ?_
      refine K.KW.seq ?_
      -- region 7 lines.go:46
      refine K.KW.region ?_
      refine K.RW.q rfl rfl (K.QR.k (v := .int .u64 (wordLE (xs.take i))) (by kernel_rfl)) ?_
      refine K.RW.q rfl rfl (K.QR.k (v := .int .u64 (wordLE (xs.take i))) (by kernel_rfl)) ?_
      refine K.RW.nil ?_
      refine K.thn_normal ?_
      refine K.KW.ret ?_
      refine ⟨.inr rfl, rfl, (.int .u64 (wordLE (xs.take i))), K.res1 rfl rfl, ?_⟩
      exact ⟨congrArg (Value.int .u64) (by rw [List.take_of_length_le (by omega)]), c_5⟩

set_option maxHeartbeats 1000000 in
set_option maxRecDepth 100000 in
theorem lBytes_ok (l : List Int) (w0 : World) (hw : allWords l) :
    K.KC Try.prog 15 #[.agg #[.int .u64 (l.getD 0 0), .int .u64 (l.getD 1 0), .int .u64 (l.getD 2 0), .int .u64 (l.getD 3 0), .int .u64 (l.getD 4 0), .int .u64 (l.getD 5 0), .int .u64 (l.getD 6 0), .int .u64 (l.getD 7 0)]] w0 (fun v w' => ∃ r m c, v = .slice r m c ∧ K.Chg K.No w0 w' ∧ K.Own w' w0.heap.size 5 1 r m c ((bytesL (ln8 l)).flatMap cU8) ∧ (bytesL (ln8 l)).length = m) := by
  refine K.KC.mk (n := 25) Try.func15 rfl rfl [.agg #[.int .u64 (l.getD 0 0), .int .u64 (l.getD 1 0), .int .u64 (l.getD 2 0), .int .u64 (l.getD 3 0), .int .u64 (l.getD 4 0), .int .u64 (l.getD 5 0), .int .u64 (l.getD 6 0), .int .u64 (l.getD 7 0)]] rfl rfl ?_
  refine K.KW.seq ?_
  -- region 0 lines.go:50
  refine K.KW.region ?_
  refine K.RW.l rfl (K.OW.new (t := 24) rfl (fun r => .pointer (some ⟨r, 0, none⟩)) [.int .u64 (l.getD 0 0), .int .u64 (l.getD 1 0), .int .u64 (l.getD 2 0), .int .u64 (l.getD 3 0), .int .u64 (l.getD 4 0), .int .u64 (l.getD 5 0), .int .u64 (l.getD 6 0), .int .u64 (l.getD 7 0)] (by kernel_rfl) ?_) 
  intro w_1 r_2 hr_3 e_4 hs_5 b_6
  have c_7 := e_4
  have z_8 := c_7.size
  have zz_9 := e_4.size
  refine K.RW.q rfl rfl (K.QR.k (v := .slice none 0 0) (by kernel_rfl)) ?_
  refine K.RW.nil ?_
  refine K.thn_normal ?_
  refine K.KW.seq ?_
  -- region 1 lines.go:51
  refine K.KW.region ?_
  refine K.RW.q rfl rfl (K.QR.k (v := .slice none 0 0) (by kernel_rfl)) ?_
  refine K.RW.nil ?_
  refine K.thn_normal ?_
  refine K.KW.seq ?_
  refine K.KW.seq ?_
  -- region 2 lines.go:52
  refine K.KW.region ?_
  refine K.RW.q rfl rfl (K.QR.ldN [.int .u64 (l.getD 0 0), .int .u64 (l.getD 1 0), .int .u64 (l.getD 2 0), .int .u64 (l.getD 3 0), .int .u64 (l.getD 4 0), .int .u64 (l.getD 5 0), .int .u64 (l.getD 6 0), .int .u64 (l.getD 7 0)] rfl rfl (by kernel_rfl) (by kernel_rfl) (K.cells (K.cl (b_6.cell rfl) (K.cl (b_6.cell rfl) (K.cl (b_6.cell rfl) (K.cl (b_6.cell rfl) (K.cl (b_6.cell rfl) (K.cl (b_6.cell rfl) (K.cl (b_6.cell rfl) (K.cl (b_6.cell rfl) K.cl0)))))))))) ?_
  refine K.RW.q rfl rfl (K.QR.k (v := .int .i64 0) (by kernel_rfl)) ?_
  refine K.RW.nil ?_
  refine K.thn_normal ?_
  refine K.KW.block ?_
  refine K.KW.loop (fun m_ F_ w_10 => ∃ (k : Nat) (r : Option Addr) (m1 : Nat) (c1 : Nat), m_ = 8 - k ∧ K.Sl F_ [(0, .agg #[.int .u64 (l.getD 0 0), .int .u64 (l.getD 1 0), .int .u64 (l.getD 2 0), .int .u64 (l.getD 3 0), .int .u64 (l.getD 4 0), .int .u64 (l.getD 5 0), .int .u64 (l.getD 6 0), .int .u64 (l.getD 7 0)]), (2, .slice none 0 0), (3, .slice r m1 c1), (7, .agg #[.int .u64 (l.getD 0 0), .int .u64 (l.getD 1 0), .int .u64 (l.getD 2 0), .int .u64 (l.getD 3 0), .int .u64 (l.getD 4 0), .int .u64 (l.getD 5 0), .int .u64 (l.getD 6 0), .int .u64 (l.getD 7 0)]), (8, .int .i64 ((k : Nat) : Int)), (25, undef)] ∧ k ≤ 8 ∧ (bytesL ((ln8 l).take k)).length = m1 ∧ m1 = 8 * k ∧ K.Chg K.No w0 w_10 ∧ K.Own w_10 w0.heap.size 5 1 r m1 c1 ((bytesL ((ln8 l).take k)).flatMap cU8) ∧ K.Blk w_10 r_2 24 [.int .u64 (l.getD 0 0), .int .u64 (l.getD 1 0), .int .u64 (l.getD 2 0), .int .u64 (l.getD 3 0), .int .u64 (l.getD 4 0), .int .u64 (l.getD 5 0), .int .u64 (l.getD 6 0), .int .u64 (l.getD 7 0)]) ((fun (k : Nat) (r : Option Addr) (m1 : Nat) (c1 : Nat) => 8 - k) 0 none 0 0) ?_ ?_
  · -- the loop begins
    exact ⟨0, none, 0, 0, rfl, ⟨by rfl, by rfl, by rfl, by rfl, by rfl, by rfl, trivial⟩, (by omega), (rfl), (by omega), c_7, K.Own.nil _ _ _ _, b_6⟩
  · -- a round
    intro m_12 F_13 w_10 hI
    obtain ⟨k, r, m1, c1, rfl, sl_14, p_16, p_17, p_18, c_15, f_19, f_20⟩ := hI
    rw [← K.Sl.puts sl_14]; clear sl_14
    have z_21 := c_15.size
    have hwk := getD_word hw k
    have hln : (ln8 l).length = 8 := rfl
    have hget : k < 8 → (ln8 l).getD k 0 = l.getD k 0 := fun h => ln8_get h
    refine K.KW.seq ?_
    -- region 3 lines.go:52
    refine K.KW.region ?_
    by_cases h_22 : (((k : Nat) : Int) : Int) < (8 : Int)
    ·  -- yes
      refine K.RW.q rfl rfl (K.QR.nice (v := .bool (decide ((((k : Nat) : Int) : Int) < (8 : Int)))) (by kernel_rfl) (congrArg Value.bool (decide_eq_true h_22))) ?_
      refine K.RW.nil ?_
      refine K.thn_normal ?_
      refine K.KW.seq ?_
      refine K.KW.ifT rfl ?_
      refine K.KW.skip ?_
      refine K.thn_normal ?_
      refine K.KW.seq ?_
      refine K.KW.block ?_
      refine K.KW.seq ?_
      -- region 4 lines.go:52
      refine K.KW.region ?_
      refine K.RW.q rfl rfl (K.QR.ixArr (cs := [.int .u64 (l.getD 0 0), .int .u64 (l.getD 1 0), .int .u64 (l.getD 2 0), .int .u64 (l.getD 3 0), .int .u64 (l.getD 4 0), .int .u64 (l.getD 5 0), .int .u64 (l.getD 6 0), .int .u64 (l.getD 7 0)]) rfl rfl rfl Try.underlying24 (by kernel_rfl) (by kernel_rfl) (by omega) (line_get (by omega))) ?_
      refine K.RW.q rfl rfl (K.QR.k (v := .int .u64 (l.getD k 0)) (by kernel_rfl)) ?_
      refine K.RW.nil ?_
      refine K.thn_normal ?_
      refine K.KW.seq ?_
      -- region 5 lines.go:53
      refine K.KW.region ?_
      refine K.RW.q rfl rfl (K.QR.k (v := .int .i64 0) (by kernel_rfl)) ?_
      refine K.RW.nil ?_
      refine K.thn_normal ?_
      refine K.KW.block ?_
      refine K.KW.loop (fun m_ F_ w_23 => ∃ (i : Nat) (q : Option Addr) (m2 : Nat) (c2 : Nat), m_ = 8 - i ∧ K.Sl F_ [(0, .agg #[.int .u64 (l.getD 0 0), .int .u64 (l.getD 1 0), .int .u64 (l.getD 2 0), .int .u64 (l.getD 3 0), .int .u64 (l.getD 4 0), .int .u64 (l.getD 5 0), .int .u64 (l.getD 6 0), .int .u64 (l.getD 7 0)]), (2, .slice none 0 0), (3, .slice q m2 c2), (5, .int .u64 (l.getD k 0)), (7, .agg #[.int .u64 (l.getD 0 0), .int .u64 (l.getD 1 0), .int .u64 (l.getD 2 0), .int .u64 (l.getD 3 0), .int .u64 (l.getD 4 0), .int .u64 (l.getD 5 0), .int .u64 (l.getD 6 0), .int .u64 (l.getD 7 0)]), (8, .int .i64 ((k : Nat) : Int)), (11, .int .i64 ((i : Nat) : Int)), (25, undef)] ∧ i ≤ 8 ∧ (bytesL ((ln8 l).take k) ++ bytesT (l.getD k 0) i).length = m2 ∧ m2 = m1 + i ∧ K.Chg K.No w0 w_23 ∧ K.Own w_23 w0.heap.size 5 1 q m2 c2 ((bytesL ((ln8 l).take k) ++ bytesT (l.getD k 0) i).flatMap cU8) ∧ K.Blk w_23 r_2 24 [.int .u64 (l.getD 0 0), .int .u64 (l.getD 1 0), .int .u64 (l.getD 2 0), .int .u64 (l.getD 3 0), .int .u64 (l.getD 4 0), .int .u64 (l.getD 5 0), .int .u64 (l.getD 6 0), .int .u64 (l.getD 7 0)]) ((fun (i : Nat) (q : Option Addr) (m2 : Nat) (c2 : Nat) => 8 - i) 0 r m1 c1) ?_ ?_
      · -- the loop begins
        exact ⟨0, r, m1, c1, rfl, ⟨by rfl, by rfl, by rfl, by rfl, by rfl, by rfl, by rfl, by rfl, trivial⟩, (by omega), (by simpa [bytesT] using p_17), (by omega), c_15, (by simpa [bytesT] using f_19), f_20⟩
      · -- a round
        intro m_25 F_26 w_23 hI
        obtain ⟨i, q, m2, c2, rfl, sl_27, p_29, p_30, p_31, c_28, f_32, f_33⟩ := hI
        rw [← K.Sl.puts sl_27]; clear sl_27
        have z_34 := c_28.size
        refine K.KW.seq ?_
        -- region 6 lines.go:53
        refine K.KW.region ?_
        by_cases h_35 : (((i : Nat) : Int) : Int) < (8 : Int)
        ·  -- yes
          refine K.RW.q rfl rfl (K.QR.nice (v := .bool (decide ((((i : Nat) : Int) : Int) < (8 : Int)))) (by kernel_rfl) (congrArg Value.bool (decide_eq_true h_35))) ?_
          refine K.RW.nil ?_
          refine K.thn_normal ?_
          refine K.KW.seq ?_
          refine K.KW.ifT rfl ?_
          refine K.KW.skip ?_
          refine K.thn_normal ?_
          refine K.KW.seq ?_
          refine K.KW.block ?_
          refine K.KW.seq ?_
          -- region 7 lines.go:53
          refine K.KW.region ?_
          refine K.RW.q rfl rfl (K.QR.k (v := .int .i64 ((i : Nat) : Int)) (by kernel_rfl)) ?_
          refine K.RW.q rfl rfl (K.QR.k (v := .int .i64 ((i : Nat) : Int)) (by kernel_rfl)) ?_
          refine K.RW.nil ?_
          refine K.thn_normal ?_
          -- region 8 lines.go:54
          refine K.KW.region ?_
          refine K.RW.q rfl rfl (K.QR.k (v := .slice q m2 c2) (by kernel_rfl)) ?_
          refine K.RW.q rfl rfl (K.QR.k (v := .int .u64 (l.getD k 0)) (by kernel_rfl)) ?_
          refine K.RW.q rfl rfl (K.QR.k (v := .int .i64 ((i : Nat) : Int)) (by kernel_rfl)) ?_
          refine K.RW.q rfl rfl (K.QR.n64 ((8 : Int) * (((i : Nat) : Int) : Int)) ((8 * i : Nat) : Int) (by kernel_rfl) (by omega)) ?_
          refine K.RW.q rfl rfl (K.QR.shr (m := (8 * i)) rfl rfl rfl (by show _ ≤ 64; omega) (by omega)) ?_
          refine K.RW.q rfl rfl (K.QR.turn (v := .int .u8 (IntKind.u8.wrap ((l.getD k 0 : Int) / 2 ^ (8 * i)))) (K.QR.k (v := .int .u8 (IntKind.u8.wrap ((l.getD k 0 : Int) / 2 ^ (8 * i)))) (by kernel_rfl)) (congrArg (Value.int .u8) (show (IntKind.u8.wrap ((l.getD k 0 : Int) / 2 ^ (8 * i)) : Int) = (byteAt (l.getD k 0) i : Int) from by exact byte_of _ _))) ?_
          refine K.RW.l rfl (K.OW.bs rfl [(0, .int .u8 (byteAt (l.getD k 0) i))] [.int .u8 (byteAt (l.getD k 0) i)] rfl rfl (fun w => K.bs_run (P := Try.prog) w 25 5 1 _ _ Try.underlying25 (by kernel_rfl)) ?_) 
          intro w_36 r_37 hr_38 e_39 hs_40 b_41
          have c_42 := c_28.no e_39
          have z_43 := c_42.size
          have zz_44 := e_39.size
          have f_45 := f_32.no e_39
          have f_46 := f_33.no e_39
          have ap_47 : ∀ k, K.Ow q k → ¬ k = r_37 := fun k hk he => absurd (f_32.lt k hk) (by omega)
          refine K.RW.l rfl (K.OW.app2 (P := Try.prog) (xs := ((bytesL ((ln8 l).take k) ++ bytesT (l.getD k 0) i)).flatMap cU8) (z := .int .u8 0) (size := 1) (bytes := 1) rfl [.int .u8 (byteAt (l.getD k 0) i)] rfl rfl f_45 rfl Try.underlying25 (by kernel_rfl) rfl (by decide) (by rfl) (fun j u hj => (by rw [Nat.zero_add]; exact b_41.cell hj)) (K.one_cells (by rfl)) (by unfold maxLen; omega) (by omega) (by omega) ?_) 
          intro a_48 cap_49 w_50 e_51 o_52 hk_53
          have c_54 := c_42.trans e_51 (fun i hi hy => absurd (f_45.base_le i hy) (by omega))
          have z_55 := c_54.size
          have zz_56 := e_51.size
          have f_57 := f_46.chg e_51 (fun hk => f_45.ne_ty f_46 (by decide) _ hk rfl)
          have o_52t := K.Own.snoc (c := cU8) (L := (bytesL ((ln8 l).take k) ++ bytesT (l.getD k 0) i)) (byteAt (l.getD k 0) i : Int) rfl o_52
          have ln_58 : (((bytesL ((ln8 l).take k) ++ bytesT (l.getD k 0) i) ++ [(byteAt (l.getD k 0) i : Int)])).length = m2 + 1 := by rw [List.length_append, p_30]; rfl
          refine K.RW.q rfl rfl (K.QR.k (v := .slice a_48 (m2 + 1) cap_49) (by kernel_rfl)) ?_
          refine K.RW.nil ?_
          refine K.blk_normal ?_
          refine K.thn_normal ?_
          -- region 9 lines.go:53
          refine K.KW.region ?_
          refine K.RW.q rfl rfl (K.QR.n64 ((((i : Nat) : Int) : Int) + (1 : Int)) ((i + 1 : Nat) : Int) (by kernel_rfl) (by omega)) ?_
          refine K.RW.q rfl rfl (K.QR.k (v := .int .i64 ((i + 1 : Nat) : Int)) (by kernel_rfl)) ?_
          refine K.RW.nil ?_
          refine K.thn_normal ?_
          refine ⟨_, ?_, i + 1, a_48, m2 + 1, cap_49, rfl, ⟨by rfl, by rfl, by rfl, by rfl, by rfl, by rfl, by rfl, by rfl, trivial⟩, (by omega), (by rw [bytesT_succ, ← List.append_assoc]; exact ln_58), (by omega), c_54, (by rw [bytesT_succ, ← List.append_assoc]; exact o_52t), f_57⟩
          omega
        ·  -- no
          refine K.RW.q rfl rfl (K.QR.nice (v := .bool (decide ((((i : Nat) : Int) : Int) < (8 : Int)))) (by kernel_rfl) (congrArg Value.bool (decide_eq_false h_35))) ?_
          refine K.RW.nil ?_
          refine K.thn_normal ?_
          refine K.KW.seq ?_
          refine K.KW.ifF rfl ?_
          refine K.KW.exit ?_
          refine K.thn_exit ?_
          refine K.thn_exit ?_
          refine K.blk_hit ?_
          refine K.blk_normal ?_
          refine K.thn_normal ?_
          -- region 10 lines.go:52
          refine K.KW.region ?_
          refine K.RW.q rfl rfl (K.QR.n64 ((((k : Nat) : Int) : Int) + (1 : Int)) ((k + 1 : Nat) : Int) (by kernel_rfl) (by omega)) ?_
          refine K.RW.q rfl rfl (K.QR.k (v := .int .i64 ((k + 1 : Nat) : Int)) (by kernel_rfl)) ?_
          refine K.RW.nil ?_
          refine K.thn_normal ?_
          refine ⟨_, ?_, k + 1, q, m2, c2, rfl, ⟨by rfl, by rfl, by rfl, by rfl, by rfl, by rfl, trivial⟩, (by omega), (by rw [bytesL_take (by omega), hget (by omega)]; have h := p_30; rw [show i = 8 by omega] at h; exact h), (by omega), c_28, (by rw [bytesL_take (by omega), hget (by omega)]; have h := f_32; rw [show i = 8 by omega] at h; exact h), f_33⟩
          omega
    ·  -- no
      refine K.RW.q rfl rfl (K.QR.nice (v := .bool (decide ((((k : Nat) : Int) : Int) < (8 : Int)))) (by kernel_rfl) (congrArg Value.bool (decide_eq_false h_22))) ?_
      refine K.RW.nil ?_
      refine K.thn_normal ?_
      refine K.KW.seq ?_
      refine K.KW.ifF rfl ?_
      refine K.KW.exit ?_
      refine K.thn_exit ?_
      refine K.thn_exit ?_
      refine K.blk_hit ?_
      refine K.thn_normal ?_
      refine K.KW.seq ?_
      -- region 11 lines.go:57
      refine K.KW.region ?_
      refine K.RW.q rfl rfl (K.QR.k (v := .slice r m1 c1) (by kernel_rfl)) ?_
      refine K.RW.q rfl rfl (K.QR.k (v := .slice r m1 c1) (by kernel_rfl)) ?_
      refine K.RW.nil ?_
      refine K.thn_normal ?_
      refine K.KW.ret ?_
      refine ⟨.inr rfl, rfl, (.slice r m1 c1), K.res1 rfl rfl, ?_⟩
      obtain rfl : k = 8 := by omega
      exact ⟨_, _, _, rfl, c_15, f_19, p_17⟩

set_option maxHeartbeats 1000000 in
set_option maxRecDepth 100000 in
theorem partsB_ok (a : Option Addr) (len cap sz : Nat) (w0 : World) :
    K.KC Try.prog 51 #[.slice a len cap, .int .i64 ((sz : Nat) : Int)] w0 (fun v w' => ∃ bl bs, v = .func (.func 80) [].toArray [.pointer (some ⟨bl, 0, none⟩), .pointer (some ⟨bs, 0, none⟩)].toArray ∧ K.Chg K.No w0 w' ∧ w0.heap.size ≤ bl ∧ w0.heap.size ≤ bs ∧ bl ≠ bs ∧ K.Blk w' bl 25 [.slice a len cap] ∧ K.Blk w' bs 3 [.int .i64 ((sz : Nat) : Int)]) := by
  refine K.KC.mk (n := 6) Try.func51 rfl rfl [.slice a len cap, .int .i64 ((sz : Nat) : Int)] rfl rfl ?_
  refine K.KW.seq ?_
  -- region 0 lines.go:18
  refine K.KW.region ?_
  refine K.RW.l rfl (K.OW.new (t := 25) rfl (fun r => .pointer (some ⟨r, 0, none⟩)) [.slice a len cap] (by kernel_rfl) ?_) 
  intro w_1 r_2 hr_3 e_4 hs_5 b_6
  have c_7 := e_4
  have z_8 := c_7.size
  have zz_9 := e_4.size
  refine K.RW.l rfl (K.OW.new (t := 3) rfl (fun r => .pointer (some ⟨r, 0, none⟩)) [.int .i64 ((sz : Nat) : Int)] (by kernel_rfl) ?_) 
  intro w_10 r_11 hr_12 e_13 hs_14 b_15
  have c_16 := c_7.no e_13
  have z_17 := c_16.size
  have zz_18 := e_13.size
  have f_19 := b_6.no e_13
  refine K.RW.q rfl rfl (K.QR.k (v := .nilFunc) (by kernel_rfl)) ?_
  refine K.RW.nil ?_
  refine K.thn_normal ?_
  refine K.KW.seq ?_
  -- region 1 lines.go:19
  refine K.KW.region ?_
  refine K.RW.q rfl rfl (K.QR.fn [] [.pointer (some ⟨r_2, 0, none⟩), .pointer (some ⟨r_11, 0, none⟩)] rfl rfl rfl) ?_
  refine K.RW.q rfl rfl (K.QR.k (v := .func (.func 80) [].toArray [.pointer (some ⟨r_2, 0, none⟩), .pointer (some ⟨r_11, 0, none⟩)].toArray) (by kernel_rfl)) ?_
  refine K.RW.nil ?_
  refine K.thn_normal ?_
  refine K.KW.ret ?_
  refine ⟨.inr rfl, rfl, (.func (.func 80) [].toArray [.pointer (some ⟨r_2, 0, none⟩), .pointer (some ⟨r_11, 0, none⟩)].toArray), K.res1 rfl rfl, ?_⟩
  exact ⟨_, _, rfl, c_16, by omega, by omega, by omega, f_19, b_15⟩

set_option maxHeartbeats 1000000 in
set_option maxRecDepth 100000 in
theorem partsItB_ok (l bl bs : Nat) (a : Option Addr) (xs : List Int) (cap n sz : Nat) (w0 : World) (J : Nat → World → Prop) (Jx : World → Prop) (hsz : 0 < sz) (hlen : xs.length ≤ 9223372036854775807) (hcap : xs.length ≤ cap) (hne : bl ≠ bs) (hn : xs.length = n) (hb : K.Blk w0 bl 25 [.slice a n cap]) (hs : K.Blk w0 bs 3 [.int .i64 ((sz : Nat) : Int)]) (hrow : RU8 w0 a xs) (hab : 0 < xs.length → ∀ k, K.Ow a k → k ≠ bl) (J0 : J 0 w0) (hJ : ∀ k W W', J k W → (∃ cs, K.Blk W bl 25 cs) → K.Chg (K.Is bl) W W' → W'.heap.size = W.heap.size → J k W') (hy : ∀ k W p c, k < xs.length / sz → J k W → K.Blk W bl 25 [c] → K.Blk W bs 3 [.int .i64 ((sz : Nat) : Int)] → K.RowE W p sz 1 (fun i => cU8 (((xs.drop (k * sz)).take sz).getD i 0)) → (∀ q, K.Ow p q → K.Ow a q) → K.YS Try.prog l [.slice p sz sz] W (fun v W' => K.Chg (fun _ => True) W W' ∧ ((v = .bool true ∧ J (k + 1) W' ∧ (∀ q, (K.Ow a q ∨ q = bl ∨ q = bs) → W'.heap[q]? = W.heap[q]?)) ∨ (v = .bool false ∧ Jx W')))) :
    K.KC Try.prog 80 #[.func (.yield l) #[] #[], .pointer (some ⟨bl, 0, none⟩), .pointer (some ⟨bs, 0, none⟩)] w0 (fun v w' => v = .tuple #[] ∧ (J (xs.length / sz) w' ∨ Jx w')) := by
  refine K.KC.mk (n := 18) Try.func80 rfl rfl [.func (.yield l) #[] #[], .pointer (some ⟨bl, 0, none⟩), .pointer (some ⟨bs, 0, none⟩)] rfl rfl ?_
  have c_0 : K.Chg (fun _ => True) w0 w0 := (K.Chg.refl w0).mono fun _ _ h => h.elim
  refine K.KW.block ?_
  refine K.KW.loop (fun m_ F_ w_1 => ∃ (k : Nat) (ys : List Int) (p : Option Addr) (c : Nat), m_ = ys.length ∧ K.Sl F_ [(0, .func (.yield l) #[] #[]), (1, .pointer (some ⟨bl, 0, none⟩)), (2, .pointer (some ⟨bs, 0, none⟩)), (18, undef)] ∧ ys = xs.drop (k * sz) ∧ k * sz ≤ xs.length ∧ ys.length ≤ c ∧ J k w_1 ∧ (∀ q, K.Ow p q → K.Ow a q) ∧ K.Chg (fun _ => True) w0 w_1 ∧ K.Blk w_1 bl 25 [.slice p ys.length c] ∧ K.Blk w_1 bs 3 [.int .i64 ((sz : Nat) : Int)] ∧ K.RowE w_1 p ys.length 1 (fun i => cU8 (ys.getD i 0))) ((fun (k : Nat) (ys : List Int) (p : Option Addr) (c : Nat) => ys.length) 0 xs a cap) ?_ ?_
  · -- the loop begins
    exact ⟨0, xs, a, cap, rfl, ⟨by rfl, by rfl, by rfl, by rfl, trivial⟩, (by simp), (by omega), (by omega), (J0), (fun _ h => h), c_0, (by rw [hn]; exact hb), hs, hrow⟩
  · -- a round
    intro m_2 F_3 w_1 hI
    obtain ⟨k, ys, p, c, rfl, sl_4, hys, p_6, p_7, p_8, p_9, c_5, f_10, f_11, f_12⟩ := hI
    rw [← K.Sl.puts sl_4]; clear sl_4
    have z_13 := c_5.size
    refine K.KW.seq ?_
    refine K.KW.seq ?_
    -- region 0 lines.go:20
    refine K.KW.region ?_
    refine K.RW.q rfl rfl (K.QR.ld1 (v := .slice p ys.length c) rfl rfl (by kernel_rfl) (f_10.cell rfl)) ?_
    refine K.RW.q rfl rfl (K.QR.len (P := Try.prog) rfl rfl Try.underlying25) ?_
    refine K.RW.q rfl rfl (K.QR.ld1 (v := .int .i64 ((sz : Nat) : Int)) rfl rfl (by kernel_rfl) (f_11.cell rfl)) ?_
    by_cases h_14 : (((ys.length : Nat) : Int) : Int) ≥ (((sz : Nat) : Int) : Int)
    ·  -- yes
      refine K.RW.q rfl rfl (K.QR.nice (v := .bool (decide ((((ys.length : Nat) : Int) : Int) ≥ (((sz : Nat) : Int) : Int)))) (by kernel_rfl) (congrArg Value.bool (decide_eq_true h_14))) ?_
      refine K.RW.nil ?_
      refine K.thn_normal ?_
      refine K.KW.ifT rfl ?_
      refine K.KW.skip ?_
      refine K.thn_normal ?_
      refine K.KW.block ?_
      refine K.KW.seq ?_
      refine K.KW.seq ?_
      -- region 1 lines.go:21
      refine K.KW.regionY ?_
      refine K.RY.q rfl rfl (K.QR.k (v := .func (.yield l) #[] #[]) (by kernel_rfl)) ?_
      refine K.RY.q rfl rfl (K.QR.ld1 (v := .slice p ys.length c) rfl rfl (by kernel_rfl) (f_10.cell rfl)) ?_
      refine K.RY.q rfl rfl (K.QR.ld1 (v := .int .i64 ((sz : Nat) : Int)) rfl rfl (by kernel_rfl) (f_11.cell rfl)) ?_
      refine K.RY.q rfl rfl (K.QR.ld1 (v := .int .i64 ((sz : Nat) : Int)) rfl rfl (by kernel_rfl) (f_11.cell rfl)) ?_
      have sl_15 := K.RowE.take (c := cU8) (d := 0) (L := ys) (f_12) sz (by omega)
      have n_16 : (ys.take sz).length = sz := by rw [List.length_take]; omega
      refine K.RY.q rfl rfl (K.QR.slFull (size := 1) sz rfl rfl rfl rfl Try.underlying25 (by kernel_rfl) (by omega)) ?_
      have hk_17 : k < xs.length / sz := parts_lt (m := ys.length) (by rw [hys, List.length_drop]) (by assumption) hsz (by omega)
      have hrow_18 : K.RowE w_1 p sz 1 (fun i => cU8 (((xs.drop (k * sz)).take sz).getD i 0)) := by rw [← hys]; exact K.RowE.len sl_15 (by rw [List.length_take]; omega)
      have hx0 : 0 < xs.length := by have h := congrArg List.length hys; rw [List.length_drop] at h; omega
      refine K.RY.yield rfl rfl [.slice p sz sz] rfl rfl rfl (hy k w_1 p _ hk_17 (by assumption) f_10 f_11 hrow_18 p_9) ?_
      rintro v_19 w_20 ⟨e_21, h⟩
      rcases h with ⟨rfl, hj_22, same_23⟩ | ⟨rfl, hj_22⟩
      ·  -- on
        have c_24 := c_5.trans e_21 (fun _ _ _ => trivial)
        have z_25 := c_24.size
        have z_26 := e_21.size
        have f_27 := (same_23 _ (.inr <| .inl rfl)).trans f_10
        have f_28 := (same_23 _ (.inr <| .inr rfl)).trans f_11
        have f_29 := K.RowE.same f_12 (fun q hq => same_23 q (.inl (p_9 q hq)))
        have f_30 := K.RowE.same sl_15 (fun q hq => same_23 q (.inl (p_9 q hq)))
        change K.Blk w_20 _ _ _ at f_27
        change K.Blk w_20 _ _ _ at f_28
        refine K.RY.q rfl rfl (K.QR.k (v := .bool false) (by kernel_rfl)) ?_
        refine K.RY.nil ?_
        refine K.thn_normal ?_
        refine K.KW.ifF rfl ?_
        refine K.KW.skip ?_
        refine K.thn_normal ?_
        -- region 2 lines.go:24
        refine K.KW.region ?_
        refine K.RW.q rfl rfl (K.QR.ld1 (v := .slice p ys.length c) rfl rfl (by kernel_rfl) (f_27.cell rfl)) ?_
        refine K.RW.q rfl rfl (K.QR.ld1 (v := .int .i64 ((sz : Nat) : Int)) rfl rfl (by kernel_rfl) (f_28.cell rfl)) ?_
        have sl_31 := K.RowE.drop (c := cU8) (d := 0) (L := ys) (cap := c) (f_29) sz (by omega) (by omega)
        have n_32 : (ys.drop sz).length = ys.length - sz := List.length_drop
        refine K.RW.q rfl rfl (K.QR.slLo (size := 1) (m := ys.length) (k := ((ys.drop sz).length)) sz rfl rfl rfl Try.underlying25 (by kernel_rfl) (by omega) (by omega)) ?_
        refine K.RW.l rfl (K.OW.st [.slice (K.shift p c sz 1) ((ys.drop sz).length) (c - sz)] [.slice (K.shift p c sz 1) ((ys.drop sz).length) (c - sz)] rfl rfl rfl (by kernel_rfl) f_27 rfl (K.one_cells (by rfl)) rfl rfl ?_) 
        intro w_33 e_34 hs_35 b_36
        have c_37 := c_24.trans e_34 (fun i hi hy => trivial)
        have z_38 := c_37.size
        have zz_39 := e_34.size
        have f_40 := f_28.chg e_34 (f_28.ne f_27 (by decide))
        have f_41 := f_29.chg e_34 (fun k hk hy => hab hx0 k (p_9 k hk) hy)
        have f_42 := f_30.chg e_34 (fun k hk hy => hab hx0 k (p_9 k hk) hy)
        have f_43 := sl_31.chg e_34 (fun k hk hy => hab hx0 k ((fun q hq => p_9 q (K.shift_ow q hq)) k hk) hy)
        refine K.RW.nil ?_
        refine K.blk_normal ?_
        refine K.thn_normal ?_
        refine ⟨_, ?_, k + 1, (ys.drop sz), (K.shift p c sz 1), c - sz, rfl, ⟨by rfl, by rfl, by rfl, by rfl, trivial⟩, (by rw [hys, List.drop_drop, Nat.succ_mul]), (by rw [Nat.succ_mul]; have h := congrArg List.length hys; rw [List.length_drop] at h; omega), (by simp only [List.length_drop]; omega), (hJ _ _ _ hj_22 ⟨_, f_27⟩ (by assumption) (by assumption)), (fun q hq => (by assumption : ∀ q, K.Ow p q → K.Ow a q) q (K.shift_ow q hq)), c_37, b_36, f_40, f_43⟩
        simp only [List.length_drop]; omega
      ·  -- no more
        have c_44 := c_5.trans e_21 (fun _ _ _ => trivial)
        refine K.RY.q rfl rfl (K.QR.k (v := .bool true) (by kernel_rfl)) ?_
        refine K.RY.nil ?_
        refine K.thn_normal ?_
        refine K.KW.ifT rfl ?_
        refine K.KW.ret ?_
        refine K.thn_ret ?_
        refine K.blk_ret ?_
        refine K.thn_ret ?_
        refine K.blk_ret ?_
        refine ⟨.inr rfl, rfl, _, K.res0 rfl, ?_⟩
        exact ⟨rfl, .inr hj_22⟩
    ·  -- no
      refine K.RW.q rfl rfl (K.QR.nice (v := .bool (decide ((((ys.length : Nat) : Int) : Int) ≥ (((sz : Nat) : Int) : Int)))) (by kernel_rfl) (congrArg Value.bool (decide_eq_false h_14))) ?_
      refine K.RW.nil ?_
      refine K.thn_normal ?_
      refine K.KW.ifF rfl ?_
      refine K.KW.exit ?_
      refine K.thn_exit ?_
      refine K.thn_exit ?_
      refine K.blk_hit ?_
      refine ⟨.inl rfl, rfl, _, K.res0 rfl, ?_⟩
      rw [← parts_end (m := ys.length) (by rw [hys, List.length_drop]) (by assumption) (by omega)]
      exact ⟨rfl, .inl (by assumption)⟩

/-- a line of which so many words are read -/
def rdT (xs : List Int) (k : Nat) : List Int := wordsT xs k ++ List.replicate (8 - k) 0
theorem rdT_len {xs : List Int} {k : Nat} (h : k ≤ 8) : (rdT xs k).length = 8 := by unfold rdT; simp [wordsT_len]; omega
theorem rdT_set {xs : List Int} {k : Nat} (h : k < 8) : (rdT xs k).set k (wordNo xs k) = rdT xs (k + 1) := by
  unfold rdT
  rw [List.set_append_right _ _ (by rw [wordsT_len]; exact Nat.le_refl _), wordsT_len, Nat.sub_self, show 8 - k = (8 - (k + 1)) + 1 by omega, List.replicate_succ, List.set_cons_zero, wordsT_succ]
  simp
theorem rdT_8 (xs : List Int) : rdT xs 8 = wordsT xs 8 := by unfold rdT; simp

set_option maxHeartbeats 1000000 in
set_option maxRecDepth 100000 in
theorem read_ok (a : Option Addr) (cap n : Nat) (xs : List Int) (w0 : World) (hn : xs.length = n) (hm : n ≤ 9223372036854775807) (hc : n ≤ cap) (hb : allBytes xs) (hx : K.RowE w0 a n 1 (fun i => cU8 (xs.getD i 0))) :
    K.KC Try.prog 16 #[.slice a n cap] w0 (fun v w' => v = .tuple #[.agg (cLine (if n = 64 then wordsT xs 8 else [])).toArray, .int .i64 (if n = 64 then 0 else 3)] ∧ K.Chg K.No w0 w') := by
  refine K.KC.mkD (n := 21) Try.func16 rfl rfl [.slice a n cap] rfl rfl ?_
  refine K.KW.seq ?_
  -- region 0 lines.go:61
  refine K.KW.region ?_
  refine K.RW.l rfl (K.OW.new (t := 24) rfl (fun r => .pointer (some ⟨r, 0, none⟩)) [.int .u64 0, .int .u64 0, .int .u64 0, .int .u64 0, .int .u64 0, .int .u64 0, .int .u64 0, .int .u64 0] (by kernel_rfl) ?_) 
  intro w_1 r_2 hr_3 e_4 hs_5 b_6
  have c_7 := e_4
  have z_8 := c_7.size
  have zz_9 := e_4.size
  refine K.RW.q rfl rfl (K.QR.k (v := .int .i64 0) (by kernel_rfl)) ?_
  refine K.RW.nil ?_
  refine K.thn_normal ?_
  refine K.KW.seq ?_
  -- region 1 lines.go:62
  refine K.KW.region ?_
  refine K.RW.l rfl (K.OW.new (t := 24) rfl (fun r => .pointer (some ⟨r, 0, none⟩)) [.int .u64 0, .int .u64 0, .int .u64 0, .int .u64 0, .int .u64 0, .int .u64 0, .int .u64 0, .int .u64 0] (by kernel_rfl) ?_) 
  intro w_10 r_11 hr_12 e_13 hs_14 b_15
  have c_16 := c_7.no e_13
  have z_17 := c_16.size
  have zz_18 := e_13.size
  have f_19 := b_6.no e_13
  refine K.RW.nil ?_
  refine K.thn_normal ?_
  refine K.KW.seq ?_
  refine K.KW.seq ?_
  -- region 2 lines.go:63
  refine K.KW.region ?_
  refine K.RW.q rfl rfl (K.QR.k (v := .slice a n cap) (by kernel_rfl)) ?_
  refine K.RW.q rfl rfl (K.QR.len (P := Try.prog) rfl rfl Try.underlying25) ?_
  by_cases h_20 : (((n : Nat) : Int) : Int) = (64 : Int)
  ·  -- yes
    refine K.RW.q rfl rfl (K.QR.nice (v := .bool ((((n : Nat) : Int) : Int) != (64 : Int))) (by kernel_rfl) (congrArg Value.bool (bne_eq_false_iff_eq.2 h_20))) ?_
    refine K.RW.nil ?_
    refine K.thn_normal ?_
    refine K.KW.ifF rfl ?_
    refine K.KW.skip ?_
    refine K.thn_normal ?_
    refine K.KW.seq ?_
    -- region 4 lines.go:66
    refine K.KW.region ?_
    refine K.RW.l rfl (K.OW.new (t := 3) rfl (fun r => .pointer (some ⟨r, 0, none⟩)) [.int .i64 0] (by kernel_rfl) ?_) 
    intro w_21 r_22 hr_23 e_24 hs_25 b_26
    have c_27 := c_16.no e_24
    have z_28 := c_27.size
    have zz_29 := e_24.size
    have f_30 := f_19.no e_24
    have f_31 := b_15.no e_24
    refine K.RW.l rfl (K.OW.st [.int .i64 0] [.int .i64 0] rfl rfl rfl (by kernel_rfl) b_26 rfl (K.one_cells (by rfl)) rfl rfl ?_) 
    intro w_32 e_33 hs_34 b_35
    have c_36 := c_27.own e_33 (by omega)
    have z_37 := c_36.size
    have zz_38 := e_33.size
    have f_39 := f_30.chg e_33 (f_30.ne b_26 (by decide))
    have f_40 := f_31.chg e_33 (f_31.ne b_26 (by decide))
    refine K.RW.nil ?_
    refine K.thn_normal ?_
    refine K.KW.seq ?_
    refine K.KW.seq ?_
    -- region 5 lines.go:67
    refine K.KW.region ?_
    refine K.RW.q rfl rfl (K.QR.k (v := .slice a n cap) (by kernel_rfl)) ?_
    refine K.RW.l rfl (K.OW.call rfl [.slice a n cap, .int .i64 8] rfl rfl (by kernel_rfl) (partsB_ok a n cap 8 _) ?_) 
    rintro _ w_49 ⟨bl_41, bs_42, rfl, c_43, h_44, h_45, h_46, b_47, b_48⟩
    have c_50 := c_36.no c_43
    have z_51 := c_50.size
    have zz_52 := c_43.size
    have f_53 := f_39.no c_43
    have f_54 := f_40.no c_43
    have f_55 := b_35.no c_43
    refine K.RW.nil ?_
    refine K.thn_normal ?_
    refine K.KW.block ?_
    have o_56 := K.Own.of_blkL (base := w0.heap.size) (n := 8) (c := cU64) (L := ([0, 0, 0, 0, 0, 0, 0, 0] : List Int)) f_54 (by omega) rfl (by unfold maxLen; omega) (fun _ => rfl) rfl
    refine K.KW.range (first := []) (cap := [.pointer (some ⟨bl_41, 0, none⟩), .pointer (some ⟨bs_42, 0, none⟩)]) rfl (by kernel_rfl) rfl ?_
    intro fid_57 w_58 rd_59 lp_60 hr_61 hl_62 hs_63 e_64 ob_65 ob_66
    generalize hrec_68 : K.mkLoop _ _ _ _ _ _ _ = rec_67 at ob_66
    have c_69 := c_50.no e_64
    have z_70 := c_69.size
    have zz_71 := e_64.size
    have f_72 := f_53.no e_64
    have f_73 := f_55.no e_64
    have f_74 := b_47.no e_64
    have f_75 := b_48.no e_64
    have f_76 := o_56.no e_64
    refine K.KC.mono (partsItB_ok lp_60 bl_41 bs_42 a xs cap n 8 w_58 (fun k w_77 => K.Ob w_77 rd_59 (.deferred (some [])) ∧ K.Ob w_77 lp_60 (.loop rec_67) ∧ K.Chg K.No w0 w_77 ∧ w0.heap.size ≤ rd_59 ∧ (rdT xs k).length = 8 ∧ K.Own w_77 w0.heap.size 24 1 (some ⟨r_11, 0, none⟩) 8 8 ((rdT xs k).flatMap cU64) ∧ K.Blk w_77 r_22 3 [.int .i64 ((k : Nat) : Int)] ∧ K.Blk w_77 r_2 24 [.int .u64 0, .int .u64 0, .int .u64 0, .int .u64 0, .int .u64 0, .int .u64 0, .int .u64 0, .int .u64 0]) (fun _ => False) (by omega) (by omega) (by omega) (by omega) hn f_74 f_75 ((K.RowE.len hx hn).no c_69) (fun h k hk => by have := K.RowE.lt (K.RowE.len hx hn) h ⟨_, rfl⟩ k hk; omega) ?_ ?_ ?_) ?_
    · exact ⟨ob_65, ob_66, c_69, by omega, (by rfl), f_76, f_73, f_72⟩
    ·  -- the iterator steps
      intro k_78 w_79 w_80 hJ_81 ⟨_, hb_82⟩ e_83 hs_84
      obtain ⟨ob_89, ob_90, c_91, hz_92, p_85, f_86, f_87, f_88⟩ := hJ_81
      have z_93 := c_91.size
      have c_94 := c_91.own e_83 (by omega)
      have z_95 := c_94.size
      have zz_96 := e_83.size
      have f_97 := ob_89.chg e_83 (ob_89.ne_blk hb_82)
      have f_98 := ob_90.chg e_83 (ob_90.ne_blk hb_82)
      have f_99 := f_86.chg e_83 (fun k hk hy => f_86.ne_ty hb_82 (by decide) k hk hy)
      have f_100 := f_87.chg e_83 (f_87.ne hb_82 (by decide))
      have f_101 := f_88.chg e_83 (f_88.ne hb_82 (by decide))
      exact ⟨f_97, f_98, c_94, by omega, (p_85), f_99, f_100, f_101⟩
    ·  -- a round
      intro k w_102 p_103 cc_104 hk_105 hJ_106 hbl_107 hbs_108 hrow_109 hpo_110
      obtain ⟨ob_116, ob_117, c_118, hz_119, p_112, f_113, f_114, f_115⟩ := hJ_106
      have z_120 := c_118.size
      have hra_111 := K.RowE.same hrow_109 (fun q hq => (c_118.block q (K.RowE.lt (K.RowE.len hx hn) (by omega) ⟨_, rfl⟩ q (hpo_110 q hq)) id).symm)
      subst hrec_68
      refine K.YS.round (n := 21) (ps := [13]) ob_117.1 rfl rfl rfl rfl rfl ?_
      -- region 6 lines.go:67
      refine K.KW.region ?_
      refine K.RW.q rfl rfl (K.QR.k (v := .slice p_103 8 8) (by kernel_rfl)) ?_
      refine K.RW.nil ?_
      refine ⟨_, ob_117, rfl, fun w_121 tn_122 ob_123 => ?_⟩
      have e_124 := K.Turn.chg tn_122
      have hs_125 := tn_122.size
      have c_126 := c_118.own e_124 (by omega)
      have z_127 := c_126.size
      have zz_128 := e_124.size
      have f_129 := ob_116.obj (by omega) e_124
      have f_130 := f_113.obj ob_117 e_124
      have f_131 := f_114.obj ob_117 e_124
      have f_132 := f_115.obj ob_117 e_124
      have f_133 := hbl_107.obj ob_117 e_124
      have f_134 := hbs_108.obj ob_117 e_124
      refine K.KW.block ?_
      refine K.KW.seq ?_
      -- region 7 lines.go:68
      refine K.KW.drawn (fun w => K.Chg K.No w0 w ∧ (w.cell? ⟨r_22, 0, none⟩ = some (.int .i64 ((k : Nat) : Int)))) (by kernel_rfl) ?_
      intro w_135 e_136 hs_137
      have c_139 := c_126.no e_136
      have z_140 := c_139.size
      have zz_141 := e_136.size
      have f_142 := f_129.no e_136
      have f_143 := ob_123.no e_136
      have f_144 := f_130.no e_136
      have f_145 := f_131.no e_136
      have f_146 := f_132.no e_136
      have f_147 := f_133.no e_136
      have f_148 := f_134.no e_136
      have hS_138 : (fun w => K.Chg K.No w0 w ∧ (w.cell? ⟨r_22, 0, none⟩ = some (.int .i64 ((k : Nat) : Int)))) w_135 := ⟨c_139, ((f_145).cell rfl)⟩
      refine K.DW.q 0 (by kernel_rfl) rfl rfl (by kernel_rfl) rfl (fun w hS => K.QR.ld1 (v := .int .i64 ((k : Nat) : Int)) rfl rfl (by kernel_rfl) (hS.2)) hS_138 ?_
      refine K.DW.l 1 rfl (by kernel_rfl) rfl (K.OW.q rfl (K.QR.k (v := .slice p_103 8 8) (by kernel_rfl)) ?_)
      refine ⟨.inl hS_138, ?_⟩
      refine K.DW.l 2 rfl (by kernel_rfl) rfl (K.OW.call rfl [.slice p_103 8 8] rfl rfl (by kernel_rfl) (word_ok _ _ _ ((xs.drop (k * 8)).take 8) _ (by rw [List.length_take, List.length_drop]; omega) (by first | omega | (simp; omega) | (simp; done)) (by first | assumption | exact bytesL_bytes _ | exact allBytes_sub (by assumption) (mem_take) | exact allBytes_sub (by assumption) (fun x h => mem_drop x (mem_take x h))) (hra_111.no c_139)) ?_)
      rintro _ w_150 ⟨rfl, c_149⟩
      have c_151 := c_139.no c_149
      have z_152 := c_151.size
      have zz_153 := c_149.size
      have f_154 := f_142.no c_149
      have f_155 := f_143.no c_149
      have f_156 := f_144.no c_149
      have f_157 := f_145.no c_149
      have f_158 := f_146.no c_149
      have f_159 := f_147.no c_149
      have f_160 := f_148.no c_149
      have hS_161 : (fun w => K.Chg K.No w0 w ∧ (w.cell? ⟨r_22, 0, none⟩ = some (.int .i64 ((k : Nat) : Int)))) w_150 := ⟨c_151, ((f_157).cell rfl)⟩
      refine ⟨.inl hS_161, ?_⟩
      refine K.DW.l 3 rfl (by kernel_rfl) rfl (K.OW.q rfl (K.QR.ixA (0 + k * 1) 1 rfl rfl rfl Try.underlying24 (by kernel_rfl) (by omega) (by first | (simp; done) | omega | (simp; omega))) ?_)
      refine ⟨.inl hS_161, ?_⟩
      refine K.DW.l 4 rfl (by kernel_rfl) rfl (K.OW.sto (P := Try.prog) (c := cU64) (L := (rdT xs k)) (size := 1) 0 k 0 [.int .u64 (wordLE ((xs.drop (k * 8)).take 8))] ((wordLE ((xs.drop (k * 8)).take 8)) : Int) rfl rfl rfl (by kernel_rfl) f_156 p_112 (by omega) (fun _ => rfl) rfl (K.one_cells (by rfl)) rfl rfl ?_)
      intro w_162 e_163 hs_164 o_165
      have c_167 := c_151.own e_163 (by omega)
      have z_168 := c_167.size
      have zz_169 := e_163.size
      have f_170 := f_154.chg e_163 (fun h => f_154.ne_own f_156 ⟨_, rfl, h⟩)
      have f_171 := f_155.chg e_163 (fun h => f_155.ne_own f_156 ⟨_, rfl, h⟩)
      have f_172 := f_157.chg e_163 (fun hk => f_156.ne_ty f_157 (by decide) _ ⟨_, rfl, rfl⟩ hk.symm)
      have f_173 := f_158.chg e_163 (by unfold K.Is; omega)
      have f_174 := f_159.chg e_163 (fun hk => f_156.ne_ty f_159 (by decide) _ ⟨_, rfl, rfl⟩ hk.symm)
      have f_175 := f_160.chg e_163 (fun hk => f_156.ne_ty f_160 (by decide) _ ⟨_, rfl, rfl⟩ hk.symm)
      have ln_166 : (((rdT xs k).set k ((wordLE ((xs.drop (k * 8)).take 8)) : Int))).length = 8 := by rw [List.length_set]; exact p_112
      refine ⟨.inr (by kernel_rfl), ?_⟩
      refine K.DW.done (by kernel_rfl) ?_
      refine K.thn_normal ?_
      -- region 8 lines.go:69
      refine K.KW.region ?_
      refine K.RW.q rfl rfl (K.QR.ld1 (v := .int .i64 ((k : Nat) : Int)) rfl rfl (by kernel_rfl) (f_172.cell rfl)) ?_
      refine K.RW.q rfl rfl (K.QR.n64 ((((k : Nat) : Int) : Int) + (1 : Int)) ((k + 1 : Nat) : Int) (by kernel_rfl) (by omega)) ?_
      refine K.RW.l rfl (K.OW.st [.int .i64 ((k + 1 : Nat) : Int)] [.int .i64 ((k + 1 : Nat) : Int)] rfl rfl rfl (by kernel_rfl) f_172 rfl (K.one_cells (by rfl)) rfl rfl ?_) 
      intro w_177 e_178 hs_179 b_180
      have c_181 := c_167.own e_178 (by omega)
      have z_182 := c_181.size
      have zz_183 := e_178.size
      have f_184 := f_170.chg e_178 (f_170.ne_blk f_172)
      have f_185 := f_171.chg e_178 (f_171.ne_blk f_172)
      have f_186 := o_165.chg e_178 (fun k hk hy => o_165.ne_ty f_172 (by decide) k hk hy)
      have f_187 := f_173.chg e_178 (f_173.ne f_172 (by decide))
      have f_188 := f_174.chg e_178 (f_174.ne f_172 (by decide))
      have f_189 := f_175.chg e_178 (by unfold K.Is; omega)
      refine K.RW.nil ?_
      refine K.blk_normal ?_
      refine ⟨_, f_185, fun w_190 tn_191 ob_192 => ?_⟩
      have e_193 := K.Turn.chg tn_191
      have hs_194 := tn_191.size
      have c_195 := c_181.own e_193 (by omega)
      have z_196 := c_195.size
      have zz_197 := e_193.size
      have f_198 := f_184.obj (by omega) e_193
      have f_199 := f_186.obj f_185 e_193
      have f_200 := b_180.obj f_185 e_193
      have f_201 := f_187.obj f_185 e_193
      have f_202 := f_188.obj f_185 e_193
      have f_203 := f_189.obj f_185 e_193
      refine ⟨K.Chg.anyOf c_118 c_195 (by omega), .inl ⟨rfl, ⟨f_198, ob_192, c_195, by omega, (by exact rdT_len (by omega)), (by have h := f_199; rw [show wordLE ((xs.drop (k * 8)).take 8) = wordNo xs k by unfold wordNo; rw [Nat.mul_comm], rdT_set (by omega)] at h; exact h), f_200, f_201⟩, ?_⟩⟩
      rintro q (hq | rfl | rfl)
      · exact K.same_old c_118 c_195 (K.RowE.lt (K.RowE.len hx hn) (by omega) ⟨_, rfl⟩) q hq
      · exact K.Blk.same hbl_107 f_202
      · exact K.Blk.same hbs_108 f_203
    ·  -- behind the loop
      rintro _ w_204 ⟨_, hJ_205 | h⟩
      case inr => exact h.elim
      obtain ⟨ob_210, ob_211, c_212, hz_213, p_206, f_207, f_208, f_209⟩ := hJ_205
      have z_214 := c_212.size
      subst hrec_68
      refine ⟨_, ob_211, (fun h => by cases h), fun w_215 tn_216 => ?_⟩
      have e_217 := K.Turn.chg tn_216
      have hs_218 := tn_216.size
      have c_219 := c_212.own e_217 (by omega)
      have z_220 := c_219.size
      have zz_221 := e_217.size
      have f_222 := ob_210.obj (by omega) e_217
      have f_223 := f_207.obj ob_211 e_217
      have f_224 := f_208.obj ob_211 e_217
      have f_225 := f_209.obj ob_211 e_217
      refine K.afterR_none rfl ?_
      refine K.blk_normal ?_
      refine K.thn_normal ?_
      refine K.KW.seq ?_
      -- region 9 lines.go:71
      refine K.KW.region ?_
      refine K.RW.q rfl rfl (K.QR.ldN [.int .u64 ((rdT xs (xs.length / 8)).getD 0 0), .int .u64 ((rdT xs (xs.length / 8)).getD 1 0), .int .u64 ((rdT xs (xs.length / 8)).getD 2 0), .int .u64 ((rdT xs (xs.length / 8)).getD 3 0), .int .u64 ((rdT xs (xs.length / 8)).getD 4 0), .int .u64 ((rdT xs (xs.length / 8)).getD 5 0), .int .u64 ((rdT xs (xs.length / 8)).getD 6 0), .int .u64 ((rdT xs (xs.length / 8)).getD 7 0)] rfl rfl (by kernel_rfl) (by kernel_rfl) (K.cells (K.cl ((K.Own.rowE 0 f_223 p_206 (fun _ => rfl)).ld 0 (by omega) 0 _ rfl) (K.cl ((K.Own.rowE 0 f_223 p_206 (fun _ => rfl)).ld 1 (by omega) 0 _ rfl) (K.cl ((K.Own.rowE 0 f_223 p_206 (fun _ => rfl)).ld 2 (by omega) 0 _ rfl) (K.cl ((K.Own.rowE 0 f_223 p_206 (fun _ => rfl)).ld 3 (by omega) 0 _ rfl) (K.cl ((K.Own.rowE 0 f_223 p_206 (fun _ => rfl)).ld 4 (by omega) 0 _ rfl) (K.cl ((K.Own.rowE 0 f_223 p_206 (fun _ => rfl)).ld 5 (by omega) 0 _ rfl) (K.cl ((K.Own.rowE 0 f_223 p_206 (fun _ => rfl)).ld 6 (by omega) 0 _ rfl) (K.cl ((K.Own.rowE 0 f_223 p_206 (fun _ => rfl)).ld 7 (by omega) 0 _ rfl) K.cl0)))))))))) ?_
      refine K.RW.l rfl (K.OW.st [.int .u64 ((rdT xs (xs.length / 8)).getD 0 0), .int .u64 ((rdT xs (xs.length / 8)).getD 1 0), .int .u64 ((rdT xs (xs.length / 8)).getD 2 0), .int .u64 ((rdT xs (xs.length / 8)).getD 3 0), .int .u64 ((rdT xs (xs.length / 8)).getD 4 0), .int .u64 ((rdT xs (xs.length / 8)).getD 5 0), .int .u64 ((rdT xs (xs.length / 8)).getD 6 0), .int .u64 ((rdT xs (xs.length / 8)).getD 7 0)] [.int .u64 ((rdT xs (xs.length / 8)).getD 0 0), .int .u64 ((rdT xs (xs.length / 8)).getD 1 0), .int .u64 ((rdT xs (xs.length / 8)).getD 2 0), .int .u64 ((rdT xs (xs.length / 8)).getD 3 0), .int .u64 ((rdT xs (xs.length / 8)).getD 4 0), .int .u64 ((rdT xs (xs.length / 8)).getD 5 0), .int .u64 ((rdT xs (xs.length / 8)).getD 6 0), .int .u64 ((rdT xs (xs.length / 8)).getD 7 0)] rfl rfl rfl (by kernel_rfl) f_225 rfl (K.one_cells (by rfl)) rfl rfl ?_) 
      intro w_226 e_227 hs_228 b_229
      have c_230 := c_219.own e_227 (by omega)
      have z_231 := c_230.size
      have zz_232 := e_227.size
      have f_233 := f_222.chg e_227 (f_222.ne_blk f_225)
      have f_234 := f_223.chg e_227 (K.ow_is (by omega))
      have f_235 := f_224.chg e_227 (f_224.ne f_225 (by decide))
      refine K.RW.q rfl rfl (K.QR.k (v := .int .i64 0) (by kernel_rfl)) ?_
      refine K.RW.nil ?_
      refine K.thn_normal ?_
      refine K.KW.ret ?_
      refine ⟨.inr rfl, .inr ⟨rd_59, rfl, f_233.1, fun w_236 tn_237 => ?_⟩⟩
      have e_238 := K.Turn.chg tn_237
      have hs_239 := tn_237.size
      have c_240 := c_230.own e_238 (by omega)
      have z_241 := c_240.size
      have zz_242 := e_238.size
      have f_243 := f_234.obj f_233 e_238
      have f_244 := f_235.obj f_233 e_238
      have f_245 := b_229.obj f_233 e_238
      refine ⟨(.tuple #[.agg #[.int .u64 ((rdT xs (xs.length / 8)).getD 0 0), .int .u64 ((rdT xs (xs.length / 8)).getD 1 0), .int .u64 ((rdT xs (xs.length / 8)).getD 2 0), .int .u64 ((rdT xs (xs.length / 8)).getD 3 0), .int .u64 ((rdT xs (xs.length / 8)).getD 4 0), .int .u64 ((rdT xs (xs.length / 8)).getD 5 0), .int .u64 ((rdT xs (xs.length / 8)).getD 6 0), .int .u64 ((rdT xs (xs.length / 8)).getD 7 0)], .int .i64 0]), K.resAt (rs := [.cell 2 24, .tmp 3]) [.agg #[.int .u64 ((rdT xs (xs.length / 8)).getD 0 0), .int .u64 ((rdT xs (xs.length / 8)).getD 1 0), .int .u64 ((rdT xs (xs.length / 8)).getD 2 0), .int .u64 ((rdT xs (xs.length / 8)).getD 3 0), .int .u64 ((rdT xs (xs.length / 8)).getD 4 0), .int .u64 ((rdT xs (xs.length / 8)).getD 5 0), .int .u64 ((rdT xs (xs.length / 8)).getD 6 0), .int .u64 ((rdT xs (xs.length / 8)).getD 7 0)], .int .i64 0] rfl ⟨⟨_, rfl, K.lvN [.int .u64 ((rdT xs (xs.length / 8)).getD 0 0), .int .u64 ((rdT xs (xs.length / 8)).getD 1 0), .int .u64 ((rdT xs (xs.length / 8)).getD 2 0), .int .u64 ((rdT xs (xs.length / 8)).getD 3 0), .int .u64 ((rdT xs (xs.length / 8)).getD 4 0), .int .u64 ((rdT xs (xs.length / 8)).getD 5 0), .int .u64 ((rdT xs (xs.length / 8)).getD 6 0), .int .u64 ((rdT xs (xs.length / 8)).getD 7 0)] (by kernel_rfl) (by kernel_rfl) (K.cells (K.cl (f_245.cell rfl) (K.cl (f_245.cell rfl) (K.cl (f_245.cell rfl) (K.cl (f_245.cell rfl) (K.cl (f_245.cell rfl) (K.cl (f_245.cell rfl) (K.cl (f_245.cell rfl) (K.cl (f_245.cell rfl) K.cl0)))))))))⟩, rfl, trivial⟩, ?_⟩
      rw [if_pos (by omega), if_pos (by omega)]
      refine ⟨?_, c_240⟩
      have h8 : xs.length / 8 = 8 := by omega
      rw [h8, rdT_8]
      rfl
  ·  -- no
    refine K.RW.q rfl rfl (K.QR.nice (v := .bool ((((n : Nat) : Int) : Int) != (64 : Int))) (by kernel_rfl) (congrArg Value.bool (bne_iff_ne.2 h_20))) ?_
    refine K.RW.nil ?_
    refine K.thn_normal ?_
    refine K.KW.ifT rfl ?_
    refine K.KW.seq ?_
    -- region 3 lines.go:64
    refine K.KW.region ?_
    refine K.RW.q rfl rfl (K.QR.ldN [.int .u64 0, .int .u64 0, .int .u64 0, .int .u64 0, .int .u64 0, .int .u64 0, .int .u64 0, .int .u64 0] rfl rfl (by kernel_rfl) (by kernel_rfl) (K.cells (K.cl (b_15.cell rfl) (K.cl (b_15.cell rfl) (K.cl (b_15.cell rfl) (K.cl (b_15.cell rfl) (K.cl (b_15.cell rfl) (K.cl (b_15.cell rfl) (K.cl (b_15.cell rfl) (K.cl (b_15.cell rfl) K.cl0)))))))))) ?_
    refine K.RW.l rfl (K.OW.st [.int .u64 0, .int .u64 0, .int .u64 0, .int .u64 0, .int .u64 0, .int .u64 0, .int .u64 0, .int .u64 0] [.int .u64 0, .int .u64 0, .int .u64 0, .int .u64 0, .int .u64 0, .int .u64 0, .int .u64 0, .int .u64 0] rfl rfl rfl (by kernel_rfl) f_19 rfl (K.one_cells (by rfl)) rfl rfl ?_) 
    intro w_246 e_247 hs_248 b_249
    have c_250 := c_16.own e_247 (by omega)
    have z_251 := c_250.size
    have zz_252 := e_247.size
    have f_253 := b_15.chg e_247 (by unfold K.Is; omega)
    refine K.RW.q rfl rfl (K.QR.k (v := .int .i64 3) (by kernel_rfl)) ?_
    refine K.RW.nil ?_
    refine K.thn_normal ?_
    refine K.KW.ret ?_
    refine K.thn_ret ?_
    refine ⟨.inr rfl, .inl ⟨rfl, (.tuple #[.agg #[.int .u64 0, .int .u64 0, .int .u64 0, .int .u64 0, .int .u64 0, .int .u64 0, .int .u64 0, .int .u64 0], .int .i64 3]), K.resAt (rs := [.cell 2 24, .tmp 3]) [.agg #[.int .u64 0, .int .u64 0, .int .u64 0, .int .u64 0, .int .u64 0, .int .u64 0, .int .u64 0, .int .u64 0], .int .i64 3] rfl ⟨⟨_, rfl, K.lvN [.int .u64 0, .int .u64 0, .int .u64 0, .int .u64 0, .int .u64 0, .int .u64 0, .int .u64 0, .int .u64 0] (by kernel_rfl) (by kernel_rfl) (K.cells (K.cl (b_249.cell rfl) (K.cl (b_249.cell rfl) (K.cl (b_249.cell rfl) (K.cl (b_249.cell rfl) (K.cl (b_249.cell rfl) (K.cl (b_249.cell rfl) (K.cl (b_249.cell rfl) (K.cl (b_249.cell rfl) K.cl0)))))))))⟩, rfl, trivial⟩, ?_⟩⟩
    rw [if_neg (by omega), if_neg (by omega)]
    exact ⟨rfl, c_250⟩

end Go.Proofs.Ytcmlompigmhddaa
