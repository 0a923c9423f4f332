import Derived.Test.YtbfafebfkdbglaaGreatKi
import Derived.Test.YtbfafebfkdbglaaGreatKz
/- Groups of memory: a row with room, of which each element has blocks of its own. -/
namespace Go.Proofs.YtbfafebfkdbglaaGreat
open Go.RowKit
set_option linter.unusedVariables false
namespace K
section
variable {β : Type} {el : β → List Value → Cs → Prop} {e : TypeId} {sz cap : Nat} {l : Cs} {a : Option Addr} {hs : List β}
/-- as KC.one, for what stays of the groups only (of which the function, too, reads some) -/
theorem KC.oneS {P : Program} {w w0 : World} {ls : List Cs} {f : FuncId} {args : Array Value} {yargs : List Value} {l : Nat} {Q' : Value → World → Prop} (hS : Sat w0 ls w) (is rest : List Nat)
    (hit : ∀ (R : Cs → Prop), YG P w0 l yargs false (pick rest ls).flatten R → GC P w0 f args (pick is ls ++ [(pick rest ls).flatten]) (fun _ post => ∃ m', post = pick is ls ++ [m'] ∧ R m'))
    (h : YG P w0 l yargs false (pick rest ls).flatten (fun m' => ∀ v w, Sat w0 (pick is ls ++ [m']) w → Q' v w)) (hp : (is ++ rest).Nodup := by decide) : KC P f args w Q' := by
  refine KC.mono (hit _ h [] w ?_) ?_
  · refine (hS.pick (is ++ rest) hp).of ?_
    have : ∀ is rest : List Nat, pick (is ++ rest) ls = pick is ls ++ pick rest ls := by
      intro is rest
      induction is with
      | nil => rfl
      | cons i is ih => show nth ls i :: pick (is ++ rest) ls = _; rw [ih]; rfl
    rw [this]; simp
  · rintro v w' ⟨post, ⟨m', rfl, h1⟩, h2⟩
    exact h1 v w' (h2.of (by simp))
end
end K
end Go.Proofs.YtbfafebfkdbglaaGreat

/- Short names for the steps of a walk. -/
namespace Go.Proofs.YtbfafebfkdbglaaGreat
open Go.RowKit
set_option linter.unusedVariables false
namespace K
section
variable {P : Program} {n : Nat} {F : Fr} {w : World} {Q : Exit → Fr → World → Prop} {ρ : Option Nat}
theorem t {K : Fr → World → Prop} (h : K F w) : thn K Q .normal F w := h
theorem u {K : Fr → World → Prop} (h : Q .ret F w) : thn K Q .ret F w := h
theorem s {x y : Code} (h : KW ρ P n x (thn (KW ρ P n y Q) Q) F w) : KW ρ P n (.seq x y) Q F w := KW.seq h
theorem k (h : Q .normal F w) : KW ρ P n .skip Q F w := KW.skip h
theorem r (h : Q .ret F w) : KW ρ P n .ret Q F w := KW.ret h
theorem g {id : Nat} {l : List Oper} (h : RW P n l.toArray l Q F w) (hd : ndf l = true := by rfl) : KW ρ P n (.region id l.toArray false) Q F w := KW.region h hd
theorem z {ops : Array Oper} (h : Q .normal F w) : RW P n ops [] Q F w := RW.nil h
theorem h {c : Operand} {x y : Code} (h : KW ρ P n x Q F w) (hc : ev n F c = .bool true := by rfl) : KW ρ P n (.cond c x y) Q F w := KW.ifT hc h
theorem f {c : Operand} {x y : Code} (h : KW ρ P n y Q F w) (hc : ev n F c = .bool false := by rfl) : KW ρ P n (.cond c x y) Q F w := KW.ifF hc h
theorem q {ops : Array Oper} (vs : List Value) {l : List Oper} (h : RW P n ops (qrest vs l) Q (qend vs l F) w) (e : qlhs P n ops vs l F w = vs.map (fun v => (true, .ok (.value v) w)) := by kernel_rfl) : RW P n ops l Q F w := RW.qs vs e h
section
variable {ops : Array Oper} {o : Oper} {rest : List Oper} {dd : Option Nat}
/-- a quiet operation, said by its law -/
theorem a {v : Value} (hq : QR P n F o v w) (h : RW P n ops rest Q (updo F dd v) w) (hd : o.dst = dd := by rfl) (hg : gd ops n F o = true := by kernel_rfl) : RW P n ops (o :: rest) Q F w := RW.q hd hg hq h
/-- a load of one cell -/
theorem d (v : Value) {t : TypeId} {x : Operand} {p : Addr} (hc : w.cell? p = some v) (h : RW P n ops rest Q (updo F dd v) w) (hd : o.dst = dd := by rfl) (ho : o.op = .load t x := by rfl) (hx : ev n F x = .pointer (some p) := by rfl) (ha : aggT P t = some false := by kernel_rfl) (hg : gd ops n F o = true := by kernel_rfl) : RW P n ops (o :: rest) Q F w :=
  RW.q hd hg (QR.ld1 ho hx ha hc) h
/-- a compare that is so, or is not -/
theorem y (p : Prop) [Decidable p] (hp : p) (h : RW P n ops rest Q (updo F dd (.bool true)) w) (hd : o.dst = dd := by rfl) (e : (execOp (ev n F) o).run P w = .ok (.value (.bool (decide p))) w := by kernel_rfl) (hg : gd ops n F o = true := by kernel_rfl) : RW P n ops (o :: rest) Q F w :=
  RW.q hd hg (QR.nice e (congrArg Value.bool (decide_eq_true hp))) h
theorem x (p : Prop) [Decidable p] (hp : ¬ p) (h : RW P n ops rest Q (updo F dd (.bool false)) w) (hd : o.dst = dd := by rfl) (e : (execOp (ev n F) o).run P w = .ok (.value (.bool (decide p))) w := by kernel_rfl) (hg : gd ops n F o = true := by kernel_rfl) : RW P n ops (o :: rest) Q F w :=
  RW.q hd hg (QR.nice e (congrArg Value.bool (decide_eq_false hp))) h
theorem ye (a b : Int) (hp : a = b) (h : RW P n ops rest Q (updo F dd (.bool true)) w) (hd : o.dst = dd := by rfl) (e : (execOp (ev n F) o).run P w = .ok (.value (.bool (a == b))) w := by kernel_rfl) (hg : gd ops n F o = true := by kernel_rfl) : RW P n ops (o :: rest) Q F w :=
  RW.q hd hg (QR.nice e (congrArg Value.bool (beq_iff_eq.2 hp))) h
theorem xe (a b : Int) (hp : ¬ a = b) (h : RW P n ops rest Q (updo F dd (.bool false)) w) (hd : o.dst = dd := by rfl) (e : (execOp (ev n F) o).run P w = .ok (.value (.bool (a == b))) w := by kernel_rfl) (hg : gd ops n F o = true := by kernel_rfl) : RW P n ops (o :: rest) Q F w :=
  RW.q hd hg (QR.nice e (congrArg Value.bool (beq_eq_false_iff_ne.2 hp))) h
theorem yn (a b : Int) (hp : ¬ a = b) (h : RW P n ops rest Q (updo F dd (.bool true)) w) (hd : o.dst = dd := by rfl) (e : (execOp (ev n F) o).run P w = .ok (.value (.bool (a != b))) w := by kernel_rfl) (hg : gd ops n F o = true := by kernel_rfl) : RW P n ops (o :: rest) Q F w :=
  RW.q hd hg (QR.nice e (congrArg Value.bool (bne_iff_ne.2 hp))) h
theorem xn (a b : Int) (hp : a = b) (h : RW P n ops rest Q (updo F dd (.bool false)) w) (hd : o.dst = dd := by rfl) (e : (execOp (ev n F) o).run P w = .ok (.value (.bool (a != b))) w := by kernel_rfl) (hg : gd ops n F o = true := by kernel_rfl) : RW P n ops (o :: rest) Q F w :=
  RW.q hd hg (QR.nice e (congrArg Value.bool (bne_eq_false_iff_eq.2 hp))) h
theorem n_ (h : RW P n ops rest Q (updo F dd undef) w) (hd : o.dst = dd := by rfl) (hg : gs ops n F o = true := by kernel_rfl) : RW P n ops (o :: rest) Q F w := RW.skip hd hg h
section
variable {S : World → Prop} {fuel : Nat} {listed : Array Bool} {oi : Oper} {v : Value}
/-- in an order that is drawn: a quiet operation, by its law; one that looks at no memory; a load; the only one that is ready -/
theorem m (i : Nat) (hi : ops[i]? = some oi) (hq : ∀ w', S w' → QR P n F oi v w') (hS : S w) (h : DW P n ops S fuel (listed.setIfInBounds i true) Q (updo F dd v) w) (hd : oi.dst = dd := by rfl) (hs : Region.noSelect ops = true := by kernel_rfl) (hc : canTake ops listed i = true := by kernel_rfl) (hg : gd ops n F oi = true := by kernel_rfl) : DW P n ops S (fuel + 1) listed Q F w :=
  DW.q i hs hi hd hc hg hq hS h
theorem p (i : Nat) (hi : ops[i]? = some oi) (v : Value) (hS : S w) (h : DW P n ops S fuel (listed.setIfInBounds i true) Q (updo F dd v) w) (e : ∀ w, (execOp (ev n F) oi).run P w = .ok (.value v) w := by intro _; kernel_rfl) (hd : oi.dst = dd := by rfl) (hs : Region.noSelect ops = true := by kernel_rfl) (hc : canTake ops listed i = true := by kernel_rfl) (hg : gd ops n F oi = true := by kernel_rfl) : DW P n ops S (fuel + 1) listed Q F w :=
  DW.q i hs hi hd hc hg (fun w' _ => QR.k (e w')) hS h
theorem o_ (i : Nat) (hi : ops[i]? = some oi) (v : Value) {t : TypeId} {x : Operand} {p : Addr} (hcell : ∀ w, S w → w.cell? p = some v) (hS : S w) (h : DW P n ops S fuel (listed.setIfInBounds i true) Q (updo F dd v) w) (ho : oi.op = .load t x := by rfl) (hx : ev n F x = .pointer (some p) := by rfl) (ha : aggT P t = some false := by kernel_rfl) (hd : oi.dst = dd := by rfl) (hs : Region.noSelect ops = true := by kernel_rfl) (hc : canTake ops listed i = true := by kernel_rfl) (hg : gd ops n F oi = true := by kernel_rfl) : DW P n ops S (fuel + 1) listed Q F w :=
  DW.q i hs hi hd hc hg (fun w' hw => QR.ld1 ho hx ha (hcell w' hw)) hS h
theorem w_ (i : Nat) (hi : ops[i]? = some oi) (hS : S w) (h : DW P n ops S fuel (listed.setIfInBounds i true) Q (updo F dd undef) w) (hd : oi.dst = dd := by rfl) (hs : Region.noSelect ops = true := by kernel_rfl) (hc : canTake ops listed i = true := by kernel_rfl) (hg : gs ops n F oi = true := by kernel_rfl) : DW P n ops S (fuel + 1) listed Q F w :=
  DW.skip i hs hi hd hc hg hS h
theorem c (i : Nat) (hi : ops[i]? = some oi) (hq : QR P n F oi v w) (hS : S w) (h : DW P n ops S fuel (listed.setIfInBounds i true) Q (updo F dd v) w) (hr : Region.ready .any ops listed = [i] := by kernel_rfl) (hd : oi.dst = dd := by rfl) (hg : gd ops n F oi = true := by kernel_rfl) : DW P n ops S (fuel + 1) listed Q F w :=
  DW.l i hi hr hg (OW.q hd hq ⟨.inl hS, h⟩)
theorem b (i : Nat) (hi : ops[i]? = some oi) (v : Value) (hS : S w) (h : DW P n ops S fuel (listed.setIfInBounds i true) Q (updo F dd v) w) (e : (execOp (ev n F) oi).run P w = .ok (.value v) w := by kernel_rfl) (hr : Region.ready .any ops listed = [i] := by kernel_rfl) (hd : oi.dst = dd := by rfl) (hg : gd ops n F oi = true := by kernel_rfl) : DW P n ops S (fuel + 1) listed Q F w :=
  DW.l i hi hr hg (OW.q hd (QR.k e) ⟨.inl hS, h⟩)
end
/-- an operation that acts -/
theorem l (h : OW P n F o w (RW P n ops rest Q)) (hg : gd ops n F o = true := by kernel_rfl) : RW P n ops (o :: rest) Q F w := RW.l hg h
end
end
end K
end Go.Proofs.YtbfafebfkdbglaaGreat

/- Lists of plain values as cells; Same tells whether two lists of words are one. -/
namespace Go.Proofs.YtbfafebfkdbglaaGreat
open Go.RowKit
set_option linter.unusedVariables false
attribute [local irreducible] K.KW K.RW K.DW K.OW K.QR K.KC
def cU64 (x : Int) : List Value := [.int .u64 x]
def cI64 (x : Int) : List Value := [K.iv x]
def cBool (x : Bool) : List Value := [.bool x]
abbrev RU64 (w : World) (a : Option Addr) (xs : List Int) : Prop := K.RowE w a xs.length 1 (fun i => cU64 (xs.getD i 0))
abbrev RI64 (w : World) (a : Option Addr) (xs : List Int) : Prop := K.RowE w a xs.length 1 (fun i => cI64 (xs.getD i 0))
def eqUpTo (xs ys : List Int) (k : Nat) : Prop := ∀ j, j < k → xs.getD j 0 = ys.getD j 0
theorem eqUpTo_zero (xs ys : List Int) : eqUpTo xs ys 0 := fun _ h => by omega
theorem eqUpTo_succ {xs ys : List Int} {k : Nat} (h : eqUpTo xs ys k) (he : xs.getD k 0 = ys.getD k 0) : eqUpTo xs ys (k + 1) := fun j hj => by
 rcases Nat.lt_or_ge j k with h' | h'
 ·exact h j h'
 ·rw [show j = k by omega]; exact he
theorem eq_of_upTo {xs ys : List Int} (hl : xs.length = ys.length) {k : Nat} (hk : k = xs.length) (h : eqUpTo xs ys k) : xs = ys := by
 subst hk
 apply List.ext_getElem hl
 intro j h1 h2
 have := h j h1
 simpa [h1, h2] using this
/-- are two lists of words one? -/
def sameB (xs ys : List Int) : Bool := decide (xs = ys)
theorem sameB_t {xs ys : List Int} {k : Nat} (h : xs.length = ys.length) (he : eqUpTo xs ys k) (hk : k = xs.length) : Value.bool true = .bool (sameB xs ys) :=
 congrArg Value.bool (decide_eq_true (eq_of_upTo h hk he)).symm
theorem sameB_len {xs ys : List Int} (h : ¬ (xs.length : Int) = ys.length) : Value.bool false = .bool (sameB xs ys) :=
 congrArg Value.bool (decide_eq_false (fun e => h (by rw [e]))).symm
theorem sameB_ne {xs ys : List Int} {k : Nat} (h : ¬ xs.getD k 0 = ys.getD k 0) : Value.bool false = .bool (sameB xs ys) :=
 congrArg Value.bool (decide_eq_false (fun e => h (by rw [e]))).symm
set_option maxHeartbeats 1000000 in
set_option maxRecDepth 100000 in
theorem same_ok (a a' : Option Addr) (cap cap' : Nat) (xs ys : List Int) (w0 : World) (hm : xs.length ≤ 9223372036854775807) (hx : RU64 w0 a xs) (hy : RU64 w0 a' ys) :
  K.KC Tryz.prog 89 #[.slice a xs.length cap, .slice a' ys.length cap'] w0 (fun v w' => v = .bool (sameB xs ys) ∧ K.Chg K.No w0 w') := by
 refine K.KC.mk (n := 26) Tryz.func89 rfl rfl [.slice a xs.length cap, .slice a' ys.length cap'] rfl rfl ?_
 refine K.s ?_
 -- region 0 law.go:28
 refine K.g (K.q [.bool false] (K.z (K.t (K.s (K.s ?_)))))
 -- region 1 law.go:29
 refine K.g (K.q [.slice a xs.length cap] ?_)
 refine K.a (K.QR.len (P := Tryz.prog) rfl rfl Tryz.underlying78) ?_
 refine K.q [.slice a' ys.length cap'] ?_
 refine K.a (K.QR.len (P := Tryz.prog) rfl rfl Tryz.underlying78) ?_
 by_cases h_1 : (((xs.length : Nat) : Int) : Int) = (((ys.length : Nat) : Int) : Int)
 ·
  refine K.xn (((xs.length : Nat) : Int) : Int) (((ys.length : Nat) : Int) : Int) h_1 ?_
  refine K.z (K.t (K.f (K.k (K.t (K.s (K.s ?_))))))
  -- region 3 law.go:32
  refine K.g (K.q [K.iv 0] (K.z (K.t ?_)))
  refine K.KW.block ?_
  refine K.KW.loop (fun m_ F_ w_2 => ∃ (k : Nat), m_ = xs.length - k ∧ K.Sl F_ [(0, .slice a xs.length cap), (1, .slice a' ys.length cap'), (5, K.iv ((k : Nat) : Int)), (26, undef)] ∧ k ≤ xs.length ∧ xs.length = ys.length ∧ eqUpTo xs ys k ∧ K.Chg K.No w0 w_2) ((fun (k : Nat) => xs.length - k) 0) ?_ ?_
  ·
   exact ⟨0, rfl, ⟨by rfl, by rfl, by rfl, by rfl, trivial⟩, (by omega), (by omega), (eqUpTo_zero _ _), (K.Chg.refl _)⟩
  ·
   intro m_3 F_4 w_2 hI
   obtain ⟨k, rfl, sl_5, p_7, p_8, p_9, c_6⟩ := hI
   rw [← K.Sl.puts sl_5]; clear sl_5
   have z_10 := c_6.size
   refine K.s (K.s ?_)
   -- region 4 law.go:32
   refine K.g (K.q [K.iv ((k : Nat) : Int), .slice a xs.length cap] ?_)
   refine K.a (K.QR.len (P := Tryz.prog) rfl rfl Tryz.underlying78) ?_
   by_cases h_11 : (((k : Nat) : Int) : Int) < (((xs.length : Nat) : Int) : Int)
   ·
    refine K.y ((((k : Nat) : Int) : Int) < (((xs.length : Nat) : Int) : Int)) h_11 ?_
    refine K.z (K.t (K.h (K.k (K.t (K.s ?_)))))
    refine K.KW.block ?_
    refine K.s ?_
    -- region 6 law.go:33
    obtain ⟨b_12, of_13, rfl, _⟩ := hx.at_ (by omega)
    obtain ⟨b_14, of_15, rfl, _⟩ := hy.at_ (by omega)
    refine K.KW.drawn (fun w => K.Chg K.No w0 w) (by kernel_rfl) ?_
    intro w_16 e_17 hs_18
    have c_20 := c_6.no e_17
    have z_21 := c_20.size
    have zz_22 := e_17.size
    have hS_19 : (fun w => K.Chg K.No w0 w) w_16 := c_20
    refine K.p 0 rfl (.slice (some ⟨b_12, of_13, none⟩) xs.length cap) hS_19 ?_
    refine K.p 1 rfl (K.iv ((k : Nat) : Int)) hS_19 ?_
    refine K.m 2 rfl (fun w hS => K.QR.ix (of_13 + k * 1) 1 rfl rfl rfl Tryz.underlying78 (by kernel_rfl) (by omega) (by first | (simp; done) | omega | (simp; omega))) hS_19 ?_
    refine K.o_ 3 rfl (.int .u64 (xs.getD k 0)) (fun w hS => (hS.cell (hx.ld k (by omega) 0 _ rfl) id)) hS_19 ?_
    refine K.p 4 rfl (.slice (some ⟨b_14, of_15, none⟩) ys.length cap') hS_19 ?_
    refine K.b 5 rfl (K.iv ((k : Nat) : Int)) hS_19 ?_
    refine K.c 6 rfl (K.QR.ix (of_15 + k * 1) 1 rfl rfl rfl Tryz.underlying78 (by kernel_rfl) (by omega) (by first | (simp; done) | omega | (simp; omega))) hS_19 ?_
    refine K.c 7 rfl (K.QR.ld1 (v := .int .u64 (ys.getD k 0)) rfl rfl (by kernel_rfl) (c_20.cell (hy.ld k (by omega) 0 _ rfl) id)) hS_19 ?_
    by_cases h_23 : (xs.getD k 0 : Int) = (ys.getD k 0 : Int)
    ·
     refine K.c 8 rfl (K.QR.nice (v := .bool ((xs.getD k 0 : Int) != (ys.getD k 0 : Int))) (by kernel_rfl) (congrArg Value.bool (bne_eq_false_iff_eq.2 h_23))) hS_19 ?_
     refine K.DW.done (by kernel_rfl) ?_
     refine K.t (K.f (K.k ?_))
     refine K.blk_normal ?_
     refine K.t ?_
     -- region 5 law.go:32
     refine K.g (K.q [K.iv ((k : Nat) : Int)] ?_)
     refine K.a (K.QR.n64 ((((k : Nat) : Int) : Int) + (1 : Int)) ((k + 1 : Nat) : Int) (by kernel_rfl) (by omega)) ?_
     refine K.q [K.iv ((k + 1 : Nat) : Int)] (K.z (K.t ?_))
     refine ⟨_, ?_, k + 1, rfl, ⟨by rfl, by rfl, by rfl, by rfl, trivial⟩, (by omega), (by omega), (eqUpTo_succ (by assumption) (by assumption)), c_20⟩
     omega
    ·
     refine K.c 8 rfl (K.QR.nice (v := .bool ((xs.getD k 0 : Int) != (ys.getD k 0 : Int))) (by kernel_rfl) (congrArg Value.bool (bne_iff_ne.2 h_23))) hS_19 ?_
     refine K.DW.done (by kernel_rfl) ?_
     refine K.t (K.h (K.s ?_))
     -- region 7 law.go:34
     refine K.g (K.q [.bool false] (K.z (K.t (K.r ?_))))
     refine K.blk_ret ?_
     refine K.u (K.u ?_)
     refine K.blk_ret ?_
     refine K.u ?_
     refine ⟨.inr rfl, rfl, (.bool false), K.res1 rfl rfl, ?_⟩
     exact ⟨by first | exact sameB_t (by assumption) (by assumption) (by omega) | exact sameB_len (by assumption) | exact sameB_ne (by assumption), c_20⟩
   ·
    refine K.x ((((k : Nat) : Int) : Int) < (((xs.length : Nat) : Int) : Int)) h_11 ?_
    refine K.z (K.t (K.f ?_))
    refine K.KW.exit ?_
    refine K.thn_exit ?_
    refine K.thn_exit ?_
    refine K.blk_hit ?_
    refine K.t (K.s ?_)
    -- region 8 law.go:37
    refine K.g (K.q [.bool true] (K.z (K.t (K.r ?_))))
    refine ⟨.inr rfl, rfl, (.bool true), K.res1 rfl rfl, ?_⟩
    exact ⟨by first | exact sameB_t (by assumption) (by assumption) (by omega) | exact sameB_len (by assumption) | exact sameB_ne (by assumption), c_6⟩
 ·
  refine K.yn (((xs.length : Nat) : Int) : Int) (((ys.length : Nat) : Int) : Int) h_1 ?_
  refine K.z (K.t (K.h (K.s ?_)))
  -- region 2 law.go:30
  refine K.g (K.q [.bool false] (K.z (K.t (K.r (K.u ?_)))))
  refine ⟨.inr rfl, rfl, (.bool false), K.res1 rfl rfl, ?_⟩
  exact ⟨by first | exact sameB_t (by assumption) (by assumption) (by omega) | exact sameB_len (by assumption) | exact sameB_ne (by assumption), (K.Chg.refl _)⟩
theorem calls_of_kc {P : Program} {f : FuncId} {args : Array Value} {w : World} (h : K.KC P f args w (fun v w' => v = .bool true ∧ K.Chg K.No w w')) :
  Calls P f args w fun e w' => e = .returned (.bool true) ∧ Below w.heap.size w w' := by
 unfold K.KC at h
 exact Calls.mono h fun e w' ⟨v, he, hv, hc⟩ => ⟨by rw [he, hv], hc.below_no⟩
end Go.Proofs.YtbfafebfkdbglaaGreat
