import Derived.Test.YtnehocjmgnhhhaaKg
/- Groups of memory: 'clear' of a whole row of the call's own. -/
namespace Go.Proofs.Ytnehocjmgnhhhaa
open Go.RowKit
set_option linter.unusedVariables false
namespace K
section
variable {P : Program} {n : Nat} {F : Fr} {w w0 : World} {ls : List Cs} {K : Fr → World → Prop}
theorem OW.gcallw {o : Oper} {dd : Option Nat} {f : FuncId} {x : Operand} {l : List Operand} {ats : Array TypeId} {R : Value → List Cs → Prop} {v1 v2 : List Value} (hS : Sat w0 ls w) (is rest : List Nat) (vs : List Value) (hk : GC P w0 f vs.toArray (pick is ls) R)
    (h : ∀ v post w', R v post → Sat w0 (post ++ pick rest ls) w' → K (updo F dd v) w') (hd : o.dst = dd := by rfl) (ho : o.op = .call { callee := .value x, args := l.toArray, argTypes := ats } := by rfl) (hx : ev n F x = .func (.func f) v1.toArray v2.toArray := by rfl)
    (hv : v1 ++ l.map (ev n F) ++ v2 = vs := by rfl) (hf : callable P f = true := by kernel_rfl) (hp : (is ++ rest).Nodup := by decide) : OW P n F o w K :=
  OW.gcallv hS is rest vs hk h hx hd ho hv hf hp
end
end K
end Go.Proofs.Ytnehocjmgnhhhaa

/- Short names for the steps of a walk. -/
namespace Go.Proofs.Ytnehocjmgnhhhaa
open Go.RowKit
set_option linter.unusedVariables false
namespace K
section
variable {P : Program} {n : Nat} {F : Fr} {w : World} {Q : Exit → Fr → World → Prop} {ρ : Option Nat}
theorem t {K : Fr → World → Prop} (h : K F w) : thn K Q .normal F w := h
theorem u {K : Fr → World → Prop} (h : Q .ret F w) : thn K Q .ret F w := h
theorem s {x y : Code} (h : KW ρ P n x (thn (KW ρ P n y Q) Q) F w) : KW ρ P n (.seq x y) Q F w := KW.seq h
theorem k (h : Q .normal F w) : KW ρ P n .skip Q F w := KW.skip h
theorem r (h : Q .ret F w) : KW ρ P n .ret Q F w := KW.ret h
theorem g {id : Nat} {l : List Oper} (h : RW P n l.toArray l Q F w) (hd : ndf l = true := by rfl) : KW ρ P n (.region id l.toArray false) Q F w := KW.region h hd
theorem z {ops : Array Oper} (h : Q .normal F w) : RW P n ops [] Q F w := RW.nil h
theorem h {c : Operand} {x y : Code} (h : KW ρ P n x Q F w) (hc : ev n F c = .bool true := by rfl) : KW ρ P n (.cond c x y) Q F w := KW.ifT hc h
theorem f {c : Operand} {x y : Code} (h : KW ρ P n y Q F w) (hc : ev n F c = .bool false := by rfl) : KW ρ P n (.cond c x y) Q F w := KW.ifF hc h
theorem q {ops : Array Oper} (vs : List Value) {l : List Oper} (h : RW P n ops (qrest vs l) Q (qend vs l F) w) (e : qlhs P n ops vs l F w = vs.map (fun v => (true, .ok (.value v) w)) := by kernel_rfl) : RW P n ops l Q F w := RW.qs vs e h
section
variable {ops : Array Oper} {o : Oper} {rest : List Oper} {dd : Option Nat}
theorem a {v : Value} (hq : QR P n F o v w) (h : RW P n ops rest Q (updo F dd v) w) (hd : o.dst = dd := by rfl) (hg : gd ops n F o = true := by kernel_rfl) : RW P n ops (o :: rest) Q F w := RW.q hd hg hq h
theorem d (v : Value) {t : TypeId} {x : Operand} {p : Addr} (hc : w.cell? p = some v) (h : RW P n ops rest Q (updo F dd v) w) (hd : o.dst = dd := by rfl) (ho : o.op = .load t x := by rfl) (hx : ev n F x = .pointer (some p) := by rfl) (ha : aggT P t = some false := by kernel_rfl) (hg : gd ops n F o = true := by kernel_rfl) : RW P n ops (o :: rest) Q F w :=
  RW.q hd hg (QR.ld1 ho hx ha hc) h
theorem y (p : Prop) [Decidable p] (hp : p) (h : RW P n ops rest Q (updo F dd (.bool true)) w) (hd : o.dst = dd := by rfl) (e : (execOp (ev n F) o).run P w = .ok (.value (.bool (decide p))) w := by kernel_rfl) (hg : gd ops n F o = true := by kernel_rfl) : RW P n ops (o :: rest) Q F w :=
  RW.q hd hg (QR.nice e (congrArg Value.bool (decide_eq_true hp))) h
theorem x (p : Prop) [Decidable p] (hp : ¬ p) (h : RW P n ops rest Q (updo F dd (.bool false)) w) (hd : o.dst = dd := by rfl) (e : (execOp (ev n F) o).run P w = .ok (.value (.bool (decide p))) w := by kernel_rfl) (hg : gd ops n F o = true := by kernel_rfl) : RW P n ops (o :: rest) Q F w :=
  RW.q hd hg (QR.nice e (congrArg Value.bool (decide_eq_false hp))) h
theorem ye (a b : Int) (hp : a = b) (h : RW P n ops rest Q (updo F dd (.bool true)) w) (hd : o.dst = dd := by rfl) (e : (execOp (ev n F) o).run P w = .ok (.value (.bool (a == b))) w := by kernel_rfl) (hg : gd ops n F o = true := by kernel_rfl) : RW P n ops (o :: rest) Q F w :=
  RW.q hd hg (QR.nice e (congrArg Value.bool (beq_iff_eq.2 hp))) h
theorem xe (a b : Int) (hp : ¬ a = b) (h : RW P n ops rest Q (updo F dd (.bool false)) w) (hd : o.dst = dd := by rfl) (e : (execOp (ev n F) o).run P w = .ok (.value (.bool (a == b))) w := by kernel_rfl) (hg : gd ops n F o = true := by kernel_rfl) : RW P n ops (o :: rest) Q F w :=
  RW.q hd hg (QR.nice e (congrArg Value.bool (beq_eq_false_iff_ne.2 hp))) h
theorem yn (a b : Int) (hp : ¬ a = b) (h : RW P n ops rest Q (updo F dd (.bool true)) w) (hd : o.dst = dd := by rfl) (e : (execOp (ev n F) o).run P w = .ok (.value (.bool (a != b))) w := by kernel_rfl) (hg : gd ops n F o = true := by kernel_rfl) : RW P n ops (o :: rest) Q F w :=
  RW.q hd hg (QR.nice e (congrArg Value.bool (bne_iff_ne.2 hp))) h
theorem xn (a b : Int) (hp : a = b) (h : RW P n ops rest Q (updo F dd (.bool false)) w) (hd : o.dst = dd := by rfl) (e : (execOp (ev n F) o).run P w = .ok (.value (.bool (a != b))) w := by kernel_rfl) (hg : gd ops n F o = true := by kernel_rfl) : RW P n ops (o :: rest) Q F w :=
  RW.q hd hg (QR.nice e (congrArg Value.bool (bne_eq_false_iff_eq.2 hp))) h
theorem n_ (h : RW P n ops rest Q (updo F dd undef) w) (hd : o.dst = dd := by rfl) (hg : gs ops n F o = true := by kernel_rfl) : RW P n ops (o :: rest) Q F w := RW.skip hd hg h
section
variable {S : World → Prop} {fuel : Nat} {listed : Array Bool} {oi : Oper} {v : Value}
theorem m (i : Nat) (hi : ops[i]? = some oi) (hq : ∀ w', S w' → QR P n F oi v w') (hS : S w) (h : DW P n ops S fuel (listed.setIfInBounds i true) Q (updo F dd v) w) (hd : oi.dst = dd := by rfl) (hs : Region.noSelect ops = true := by kernel_rfl) (hc : canTake ops listed i = true := by kernel_rfl) (hg : gd ops n F oi = true := by kernel_rfl) : DW P n ops S (fuel + 1) listed Q F w :=
  DW.q i hs hi hd hc hg hq hS h
theorem p (i : Nat) (hi : ops[i]? = some oi) (v : Value) (hS : S w) (h : DW P n ops S fuel (listed.setIfInBounds i true) Q (updo F dd v) w) (e : ∀ w, (execOp (ev n F) oi).run P w = .ok (.value v) w := by intro _; kernel_rfl) (hd : oi.dst = dd := by rfl) (hs : Region.noSelect ops = true := by kernel_rfl) (hc : canTake ops listed i = true := by kernel_rfl) (hg : gd ops n F oi = true := by kernel_rfl) : DW P n ops S (fuel + 1) listed Q F w :=
  DW.q i hs hi hd hc hg (fun w' _ => QR.k (e w')) hS h
theorem o_ (i : Nat) (hi : ops[i]? = some oi) (v : Value) {t : TypeId} {x : Operand} {p : Addr} (hcell : ∀ w, S w → w.cell? p = some v) (hS : S w) (h : DW P n ops S fuel (listed.setIfInBounds i true) Q (updo F dd v) w) (ho : oi.op = .load t x := by rfl) (hx : ev n F x = .pointer (some p) := by rfl) (ha : aggT P t = some false := by kernel_rfl) (hd : oi.dst = dd := by rfl) (hs : Region.noSelect ops = true := by kernel_rfl) (hc : canTake ops listed i = true := by kernel_rfl) (hg : gd ops n F oi = true := by kernel_rfl) : DW P n ops S (fuel + 1) listed Q F w :=
  DW.q i hs hi hd hc hg (fun w' hw => QR.ld1 ho hx ha (hcell w' hw)) hS h
theorem w_ (i : Nat) (hi : ops[i]? = some oi) (hS : S w) (h : DW P n ops S fuel (listed.setIfInBounds i true) Q (updo F dd undef) w) (hd : oi.dst = dd := by rfl) (hs : Region.noSelect ops = true := by kernel_rfl) (hc : canTake ops listed i = true := by kernel_rfl) (hg : gs ops n F oi = true := by kernel_rfl) : DW P n ops S (fuel + 1) listed Q F w :=
  DW.skip i hs hi hd hc hg hS h
theorem c (i : Nat) (hi : ops[i]? = some oi) (hq : QR P n F oi v w) (hS : S w) (h : DW P n ops S fuel (listed.setIfInBounds i true) Q (updo F dd v) w) (hr : Region.ready .any ops listed = [i] := by kernel_rfl) (hd : oi.dst = dd := by rfl) (hg : gd ops n F oi = true := by kernel_rfl) : DW P n ops S (fuel + 1) listed Q F w :=
  DW.l i hi hr hg (OW.q hd hq ⟨.inl hS, h⟩)
theorem b (i : Nat) (hi : ops[i]? = some oi) (v : Value) (hS : S w) (h : DW P n ops S fuel (listed.setIfInBounds i true) Q (updo F dd v) w) (e : (execOp (ev n F) oi).run P w = .ok (.value v) w := by kernel_rfl) (hr : Region.ready .any ops listed = [i] := by kernel_rfl) (hd : oi.dst = dd := by rfl) (hg : gd ops n F oi = true := by kernel_rfl) : DW P n ops S (fuel + 1) listed Q F w :=
  DW.l i hi hr hg (OW.q hd (QR.k e) ⟨.inl hS, h⟩)
end
theorem l (h : OW P n F o w (RW P n ops rest Q)) (hg : gd ops n F o = true := by kernel_rfl) : RW P n ops (o :: rest) Q F w := RW.l hg h
end
end
end K
end Go.Proofs.Ytnehocjmgnhhhaa
