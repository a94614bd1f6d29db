/- The logic. No condition. -/
import Derived.Test.YtmekkgdboplbjaaGreatDoorCB0
import Derived.KernelRfl
import Derived.Laws.Strings3
import Derived.Laws.BytesString
import Derived.Laws.Concat
import Derived.Lib.LaidTab
import Derived.Lib.Join
import Derived.Lib.ItoaNum
import Derived.Lib.ItoaLen
import Derived.Sort.Grow
import Derived.Deep.Draws
import Derived.ProofKit
import Derived.OpenShut
import Derived.Carry
import Derived.Below
import Derived.ChangeSame
import Derived.ChangeArms
import Derived.WideKeyArgs
import Derived.Deep.Slices
set_option linter.all false
namespace Go.Proofs.YtmekkgdboplbjaaGreatDoor.M
open Go Go.RowKit
section
section
variable {P : Program} {n : Nat} {h0 : Nat → Prop} {w0 : World} {Fz0 : av} {ops : Array Oper} {σ σ0 : St} {QS : St → Prop} {Q : Exit → St → Prop} {o : Oper} {l : List Oper} {acc : List (Nat × ax)} {c : Code}
def rA {L : ax} (y : az P n ops QS l (σ.app L)) (h1 : aS L.rs σ.s := by repeat (first | exact True.intro | refine And.intro rfl ?_)) (h2 : aS L.rb σ.b := by repeat (first | exact True.intro | refine And.intro rfl ?_)) (x : Loc P n o L) (hg : o.guard = none := by exact rfl) (ha : L.al = none := by exact rfl) : az P n ops QS (o :: l) σ :=
  az.step h1 h2 (bK.of hg x) (fun d hd => by rw [ha] at hd; cases hd) y
def rB {L : ax} {g s : Nat} {b c : Bool} (hb : c = b) (y : az P n ops QS l (σ.app ⟨(s, RV.bool c) :: L.rs, L.rb, L.ws, L.wb, L.al⟩)) (hg : o.guard = some (g, b) := by exact rfl) (hs : (ops[g]?).bind (·.dst) = some s := by exact rfl) (h1 : aS ((s, RV.bool c) :: L.rs) σ.s := by repeat (first | exact True.intro | refine And.intro rfl ?_)) (h2 : aS L.rb σ.b := by repeat (first | exact True.intro | refine And.intro rfl ?_)) (x : Loc P n o L) (hlt : s < n := by decide) (ha : L.al = none := by exact rfl) : az P n ops QS (o :: l) σ :=
  az.step (L := ⟨(s, RV.bool c) :: L.rs, L.rb, L.ws, L.wb, L.al⟩) h1 h2 (bK.yes hg hs hlt hb x) (fun d hd => by have hd : L.al = some d := hd; rw [ha] at hd; cases hd) y
def dA {L : ax} (m : Nat) (y : bv P n ops σ0 (fun _ _ => True) QS l (acc ++ [(m, L)]) (σ.app L)) (h1 : aS L.rs σ.s := by repeat (first | exact True.intro | refine And.intro rfl ?_)) (h2 : aS L.rb σ.b := by repeat (first | exact True.intro | refine And.intro rfl ?_)) (x : Loc P n o L) (hg : o.guard = none := by exact rfl) (ha : L.al = none := by exact rfl) (h4 : mp m o L acc = true := by kernel_rfl) : bv P n ops σ0 (fun _ _ => True) QS (o :: l) acc σ :=
  bv.step m h1 h2 (bK.of hg x) (fun d hd => by rw [ha] at hd; cases hd) h4 y
def dB {L : ax} {g s : Nat} {b c : Bool} (m : Nat) (hb : c = b) (y : bv P n ops σ0 (fun _ _ => True) QS l (acc ++ [(m, ⟨(s, RV.bool c) :: L.rs, L.rb, L.ws, L.wb, L.al⟩)]) (σ.app ⟨(s, RV.bool c) :: L.rs, L.rb, L.ws, L.wb, L.al⟩)) (hg : o.guard = some (g, b) := by exact rfl) (hs : (ops[g]?).bind (·.dst) = some s := by exact rfl) (h1 : aS ((s, RV.bool c) :: L.rs) σ.s := by repeat (first | exact True.intro | refine And.intro rfl ?_)) (h2 : aS L.rb σ.b := by repeat (first | exact True.intro | refine And.intro rfl ?_)) (x : Loc P n o L) (hlt : s < n := by decide) (ha : L.al = none := by exact rfl)
    (h4 : mp m o ⟨(s, RV.bool c) :: L.rs, L.rb, L.ws, L.wb, L.al⟩ acc = true := by kernel_rfl) : bv P n ops σ0 (fun _ _ => True) QS (o :: l) acc σ :=
  bv.step (L := ⟨(s, RV.bool c) :: L.rs, L.rb, L.ws, L.wb, L.al⟩) m h1 h2 (bK.yes hg hs hlt hb x) (fun d hd => by have hd : L.al = some d := hd; rw [ha] at hd; cases hd) h4 y
def dF {g s d : Nat} {c : Bool} (m : Nat) (hb : c = false) (y : bv P n ops σ0 (fun _ _ => True) QS l (acc ++ [(m, ⟨[(s, RV.bool c)], [], [(d, some RV.und)], [], none⟩)]) (σ.app ⟨[(s, RV.bool c)], [], [(d, some RV.und)], [], none⟩)) (hg : o.guard = some (g, true) := by exact rfl) (hs : (ops[g]?).bind (·.dst) = some s := by exact rfl) (hlt : s < n := by decide) (hd : o.dst = some d := by exact rfl)
    (h1 : σ.s s = some (RV.bool c) := by exact rfl) (h4 : mp m o ⟨[(s, RV.bool c)], [], [(d, some RV.und)], [], none⟩ acc = true := by kernel_rfl) : bv P n ops σ0 (fun _ _ => True) QS (o :: l) acc σ :=
  bv.step (L := ⟨[(s, RV.bool c)], [], [(d, some RV.und)], [], none⟩) m ⟨h1, True.intro⟩ True.intro (bK.no hg hs hlt hb hd) eo h4 y
def dT {g s d : Nat} {c : Bool} (m : Nat) (hb : c = true) (y : bv P n ops σ0 (fun _ _ => True) QS l (acc ++ [(m, ⟨[(s, RV.bool c)], [], [(d, some RV.und)], [], none⟩)]) (σ.app ⟨[(s, RV.bool c)], [], [(d, some RV.und)], [], none⟩)) (hg : o.guard = some (g, false) := by exact rfl) (hs : (ops[g]?).bind (·.dst) = some s := by exact rfl) (hlt : s < n := by decide) (hd : o.dst = some d := by exact rfl)
    (h1 : σ.s s = some (RV.bool c) := by exact rfl) (h4 : mp m o ⟨[(s, RV.bool c)], [], [(d, some RV.und)], [], none⟩ acc = true := by kernel_rfl) : bv P n ops σ0 (fun _ _ => True) QS (o :: l) acc σ :=
  bv.step (L := ⟨[(s, RV.bool c)], [], [(d, some RV.und)], [], none⟩) m ⟨h1, True.intro⟩ True.intro (bK.no hg hs hlt hb hd) eo h4 y
def dU {g s d : Nat} {b : Bool} (m : Nat) (y : bv P n ops σ0 (fun _ _ => True) QS l (acc ++ [(m, ⟨[(s, RV.und)], [], [(d, some RV.und)], [], none⟩)]) (σ.app ⟨[(s, RV.und)], [], [(d, some RV.und)], [], none⟩)) (hg : o.guard = some (g, b) := by exact rfl) (hs : (ops[g]?).bind (·.dst) = some s := by exact rfl) (hd : o.dst = some d := by exact rfl)
    (h1 : σ.s s = some RV.und := by exact rfl) (h4 : mp m o ⟨[(s, RV.und)], [], [(d, some RV.und)], [], none⟩ acc = true := by kernel_rfl) : bv P n ops σ0 (fun _ _ => True) QS (o :: l) acc σ :=
  bv.step (L := ⟨[(s, RV.und)], [], [(d, some RV.und)], [], none⟩) m ⟨h1, True.intro⟩ True.intro (bK.noU hg hs hd) eo h4 y
def sO (l : List (Nat × RV)) (b : List (Nat × (Nat × List PV))) (h : SW P n h0 w0 Fz0 c (St.of l b) Q) (hl : aS l σ.s := by repeat (first | exact True.intro | refine And.intro rfl ?_)) (hb : aS b σ.b := by repeat (first | exact True.intro | refine And.intro rfl ?_)) : SW P n h0 w0 Fz0 c σ Q := Oj hl hb h
def wO (m : List (Nat × RV)) (b : List (Nat × (Nat × List PV))) (h : kW P n h0 w0 Fz0 ops l (St.of m b) Q) (hl : aS m σ.s := by repeat (first | exact True.intro | refine And.intro rfl ?_)) (hb : aS b σ.b := by repeat (first | exact True.intro | refine And.intro rfl ?_)) : kW P n h0 w0 Fz0 ops l σ Q := Ou hl hb h
def wA {L : ax} (y : kW P n h0 w0 Fz0 ops l (σ.app L) Q) (h1 : aS L.rs σ.s := by repeat (first | exact True.intro | refine And.intro rfl ?_)) (h2 : aS L.rb σ.b := by repeat (first | exact True.intro | refine And.intro rfl ?_)) (x : Loc P n o L) (hg : o.guard = none := by exact rfl) (ha : L.al = none := by exact rfl) : kW P n h0 w0 Fz0 ops (o :: l) σ Q :=
  Ot h1 h2 (bK.of hg x) (fun d hd => by rw [ha] at hd; cases hd) y
end
section
variable {P : Program} {n : Nat} {d x : Nat} {ty : TypeId} {pos : String} {af : Array Edge} {g : Option (Nat × Bool)}
def cM {r r' : RV} (hc : Cp r r') (hd : d < n := by decide) : Loc P n ⟨some d, .move (.tmp x), ty, pos, af, g⟩ ⟨[(x, r)], [], [(d, some r')], [], none⟩ := gY (.inl rfl) hd hc
def cA {r r' : RV} (hc : Cp r r') (hd : d < n := by decide) : Loc P n ⟨some d, .assign (.tmp x), ty, pos, af, g⟩ ⟨[(x, r)], [], [(d, some r')], [], none⟩ := gY (.inr rfl) hd hc
def sM {v : Value} (hd : d < n := by decide) : Loc P n ⟨some d, .move (.tmp x), ty, pos, af, g⟩ ⟨[(x, RV.sc v)], [], [(d, some (RV.sc v))], [], none⟩ := cM Cp.sc hd
def sA {v : Value} (hd : d < n := by decide) : Loc P n ⟨some d, .assign (.tmp x), ty, pos, af, g⟩ ⟨[(x, RV.sc v)], [], [(d, some (RV.sc v))], [], none⟩ := cA Cp.sc hd
def vM {cs : List PV} (ag : Bool) (qs : List PV) (ht : ao cs qs := by repeat' (first | exact True.intro | exact PV.To.refl _ | exact PV.to_none | apply And.intro)) (hb : ab qs := by repeat (first | exact ab.nil | refine ab.cons (PV.bor_val _) ?_ | refine ab.cons (PV.bor_sl _) ?_ | refine ab.cons (PV.bor_lo _ _) ?_)) (hd : d < n := by decide) :
    Loc P n ⟨some d, .move (.tmp x), ty, pos, af, g⟩ ⟨[(x, RV.sv ag cs)], [], [(d, some (RV.sv ag qs))], [], none⟩ := cM (Cp.sv ht hb) hd
def vA {cs : List PV} (ag : Bool) (qs : List PV) (ht : ao cs qs := by repeat' (first | exact True.intro | exact PV.To.refl _ | exact PV.to_none | apply And.intro)) (hb : ab qs := by repeat (first | exact ab.nil | refine ab.cons (PV.bor_val _) ?_ | refine ab.cons (PV.bor_sl _) ?_ | refine ab.cons (PV.bor_lo _ _) ?_)) (hd : d < n := by decide) :
    Loc P n ⟨some d, .assign (.tmp x), ty, pos, af, g⟩ ⟨[(x, RV.sv ag cs)], [], [(d, some (RV.sv ag qs))], [], none⟩ := cA (Cp.sv ht hb) hd
def tM {r : RV} (hd : d < n := by decide) : Loc P n ⟨some d, .move (.tmp x), ty, pos, af, g⟩ ⟨[(x, r)], [], [(x, none), (d, some r)], [], none⟩ := pv (.inl rfl) hd
def tA {r : RV} (hd : d < n := by decide) : Loc P n ⟨some d, .assign (.tmp x), ty, pos, af, g⟩ ⟨[(x, r)], [], [(x, none), (d, some r)], [], none⟩ := pv (.inr rfl) hd
def kM {v : Value} (h : v.oneCell' = true := by exact rfl) (hd : d < n := by decide) : Loc P n ⟨some d, .move (.const v), ty, pos, af, g⟩ ⟨[], [], [(d, some (RV.sc v))], [], none⟩ := ki (.inl rfl) hd (aJ h)
def kA {v : Value} (h : v.oneCell' = true := by exact rfl) (hd : d < n := by decide) : Loc P n ⟨some d, .assign (.const v), ty, pos, af, g⟩ ⟨[], [], [(d, some (RV.sc v))], [], none⟩ := ki (.inr rfl) hd (aJ h)
def lD {T p b off t : Nat} {ag : Bool} {k : Nat} {cs : List PV} (qs : List PV) (hT : cn P T = some (ag, k)) (h1 : ag = false → k = 1 := by first | exact fun _ => rfl | exact fun h => nomatch h) (hk : off + k ≤ cs.length := by exact Nat.le_of_ble_eq_true rfl) (ht : ao ((cs.drop off).take k) qs := by repeat' (first | exact True.intro | exact PV.To.refl _ | exact PV.to_none | apply And.intro))
    (hb : ab qs := by repeat (first | exact ab.nil | refine ab.cons (PV.bor_val _) ?_ | refine ab.cons (PV.bor_sl _) ?_ | refine ab.cons (PV.bor_lo _ _) ?_)) (hd : d < n := by decide) :
    Loc P n ⟨some d, .load T (.tmp p), ty, pos, af, g⟩ ⟨[(p, RV.ptr b off)], [(b, (t, cs))], [(d, some (RV.sv ag qs))], [], none⟩ := gH hd hT h1 hk ht hb
def lE {T p : Nat} {ag : Bool} {k : Nat} {cs : List PV} (qs : List PV) (hT : cn P T = some (ag, k)) (h1 : ag = false → k = 1 := by first | exact fun _ => rfl | exact fun h => nomatch h) (hk : k ≤ cs.length := by exact Nat.le_of_ble_eq_true rfl) (ht : ao (cs.take k) qs := by repeat' (first | exact True.intro | exact PV.To.refl _ | exact PV.to_none | apply And.intro))
    (hb : ab qs := by repeat (first | exact ab.nil | refine ab.cons (PV.bor_val _) ?_ | refine ab.cons (PV.bor_sl _) ?_ | refine ab.cons (PV.bor_lo _ _) ?_)) (hd : d < n := by decide) :
    Loc P n ⟨some d, .load T (.tmp p), ty, pos, af, g⟩ ⟨[(p, RV.eptr cs)], [], [(d, some (RV.sv ag qs))], [], none⟩ := px hd hT h1 hk ht hb
def lF {T p b off f fo : Nat} (hT : bO P T f = some fo) (hd : d < n := by decide) : Loc P n ⟨some d, .fieldAddr T (.tmp p) f, ty, pos, af, g⟩ ⟨[(p, RV.ptr b off)], [], [(d, some (RV.ptr b (off + fo)))], [], none⟩ := uG hd hT
def lN {T E e bs s m : Nat} {o : Fl} {es : List (List PV)} (hT : ew P T = some (E, e, bs)) (hm : es.length = m := by first | exact am _ | exact rfl) (hd : d < n := by decide) :
    Loc P n ⟨some d, .call { callee := .builtin .len, args := #[.tmp s], argTypes := #[T] }, ty, pos, af, g⟩ ⟨[(s, RV.slc o es)], [], [(d, some (RV.int (m : Int)))], [], none⟩ := Od hd hT hm
def nT {T : TypeId} {b : Bool} (hd : d < n := by decide) : Loc P n ⟨some d, .unOp .not T (.tmp x), ty, pos, af, g⟩ ⟨[(x, RV.bool b)], [], [(d, some (RV.bool !b))], [], none⟩ := Oc hd
def aK {c x y : Operand} {b : Bool} {r : RV} (hg : b = true) (hc : bu c (RV.bool b) := by exact True.intro) (hz : bu x r := by first | exact True.intro | exact aJ rfl) (hcp : Cp r r := by exact Cp.sc) (hd : d < n := by decide) : Loc P n ⟨some d, .pick c x y, ty, pos, af, g⟩ ⟨bd c (RV.bool b) ++ bd x r, [], [(d, some r)], [], none⟩ := CY (z := x) hd (by rw [hg]; rfl) hc hz hcp
def aH {c x y : Operand} {b : Bool} {r : RV} (hg : b = false) (hc : bu c (RV.bool b) := by exact True.intro) (hz : bu y r := by first | exact True.intro | exact aJ rfl) (hcp : Cp r r := by exact Cp.sc) (hd : d < n := by decide) : Loc P n ⟨some d, .pick c x y, ty, pos, af, g⟩ ⟨bd c (RV.bool b) ++ bd y r, [], [(d, some r)], [], none⟩ := CY (z := y) hd (by rw [hg]; rfl) hc hz hcp
def cL {f : Nat} {args : Array Operand} {tys : Array TypeId} {r : RV} (qs as_ : List (Bool × List PV)) (hf : aE P f = true) (hok : kk args.toList qs := by repeat' (first | exact True.intro | exact aJ rfl | exact CX | apply And.intro))
    (hto : jA qs as_ := by repeat' (first | exact True.intro | exact rfl | exact PV.To.refl _ | exact PV.to_none | apply And.intro)) (hs : aN P f as_ r) (hd : d < n := by decide) : Loc P n ⟨some d, .call { callee := .value (.func f), args := args, argTypes := tys }, ty, pos, af, g⟩ ⟨io args.toList qs, [], [(d, some r)], [], none⟩ := uL hd hf hok hto hs
section
variable {T T2 : TypeId} {x y : Operand} {i j : Int}
def dZ (hx : bu x (RV.int i) := by first | exact True.intro | exact aJ rfl) (hy : bu y (RV.int j) := by first | exact True.intro | exact aJ rfl) (hd : d < n := by decide) : Loc P n ⟨some d, .binOp .lss T x y T2, ty, pos, af, g⟩ ⟨bd x (RV.int i) ++ bd y (RV.int j), [], [(d, some (RV.bool (decide (i < j))))], [], none⟩ := NU hd hx hy
def ir (hx : bu x (RV.int i) := by first | exact True.intro | exact aJ rfl) (hy : bu y (RV.int j) := by first | exact True.intro | exact aJ rfl) (hd : d < n := by decide) : Loc P n ⟨some d, .binOp .leq T x y T2, ty, pos, af, g⟩ ⟨bd x (RV.int i) ++ bd y (RV.int j), [], [(d, some (RV.bool (decide (i ≤ j))))], [], none⟩ := NV hd hx hy
def dC (hx : bu x (RV.int i) := by first | exact True.intro | exact aJ rfl) (hy : bu y (RV.int j) := by first | exact True.intro | exact aJ rfl) (hd : d < n := by decide) : Loc P n ⟨some d, .binOp .gtr T x y T2, ty, pos, af, g⟩ ⟨bd x (RV.int i) ++ bd y (RV.int j), [], [(d, some (RV.bool (decide (i > j))))], [], none⟩ := NW hd hx hy
def jD (hx : bu x (RV.int i) := by first | exact True.intro | exact aJ rfl) (hy : bu y (RV.int j) := by first | exact True.intro | exact aJ rfl) (hd : d < n := by decide) : Loc P n ⟨some d, .binOp .geq T x y T2, ty, pos, af, g⟩ ⟨bd x (RV.int i) ++ bd y (RV.int j), [], [(d, some (RV.bool (decide (i ≥ j))))], [], none⟩ := NX hd hx hy
def fb (hx : bu x (RV.int i) := by first | exact True.intro | exact aJ rfl) (hy : bu y (RV.int j) := by first | exact True.intro | exact aJ rfl) (hd : d < n := by decide) : Loc P n ⟨some d, .binOp .eql T x y T2, ty, pos, af, g⟩ ⟨bd x (RV.int i) ++ bd y (RV.int j), [], [(d, some (RV.bool (i == j)))], [], none⟩ := NY hd hx hy
def gJ (hx : bu x (RV.int i) := by first | exact True.intro | exact aJ rfl) (hy : bu y (RV.int j) := by first | exact True.intro | exact aJ rfl) (hd : d < n := by decide) : Loc P n ⟨some d, .binOp .neq T x y T2, ty, pos, af, g⟩ ⟨bd x (RV.int i) ++ bd y (RV.int j), [], [(d, some (RV.bool (i != j)))], [], none⟩ := NZ hd hx hy
def iX (hx : bu x (RV.int i) := by first | exact True.intro | exact aJ rfl) (hy : bu y (RV.int j) := by first | exact True.intro | exact aJ rfl) (h : aQ (i + j) := by unfold aQ; omega) (hd : d < n := by decide) : Loc P n ⟨some d, .binOp .add T x y T2, ty, pos, af, g⟩ ⟨bd x (RV.int i) ++ bd y (RV.int j), [], [(d, some (RV.int (i + j)))], [], none⟩ := ya hd hx hy h
def gw (hx : bu x (RV.int i) := by first | exact True.intro | exact aJ rfl) (hy : bu y (RV.int j) := by first | exact True.intro | exact aJ rfl) (h : aQ (i - j) := by unfold aQ; omega) (hd : d < n := by decide) : Loc P n ⟨some d, .binOp .sub T x y T2, ty, pos, af, g⟩ ⟨bd x (RV.int i) ++ bd y (RV.int j), [], [(d, some (RV.int (i - j)))], [], none⟩ := Oa hd hx hy h
end
end
end
section
section
variable {P : Program} {n : Nat}
section
variable {T : TypeId} {x y : Operand} {i j : Int} {k : IntKind} {w : World}
end
section
variable {T T2 : TypeId} {x y : Operand} {d : Nat} {ty : TypeId} {pos : String} {af : Array Edge} {g : Option (Nat × Bool)} {i j : Int} {k : IntKind}
def yy {src dst : TypeId} {k2 : IntKind} (hS : P.underlying src = some (.int k)) (hD : P.underlying dst = some (.int k2)) (hj : k2.wrap i = j) (hx : bu x (RV.sc (.int k i)) := by first | exact True.intro | exact aJ rfl) (hd : d < n := by decide) :
    Loc P n ⟨some d, .convert src dst x, ty, pos, af, g⟩ ⟨bd x (RV.sc (.int k i)), [], [(d, some (RV.sc (.int k2 j)))], [], none⟩ := by
  intro h0 w0 Fz0 σ a w K Q h1 h2 _ _ h5
  obtain ⟨φ, Fz, Fp, hc⟩ := h1
  have ex := hc.sc h2 hx
  refine en (v := .int k2 j) (w' := w) ?_ (h5 _ _ (hc.put0 hd (cc.of_sc rfl)))
  unfold execOp
  simp [ex, convert, run_underlying hS, run_underlying hD, Conv.intToInt, hj]
end
section
variable {h0 : Nat → Prop} {w0 : World} {Fz0 : av} {σ : St} {Q : Exit → St → Prop} {c1 c2 : Code}
end
end
end
section
def sJ : List Value → List PV → List PV
  | u :: us, p :: ps => PV.nv u p :: sJ us ps
  | _, _ => []
def uY {Fz : av} {w : World} : ∀ {ps : List PV} {us : List Value}, ab ps → bZ ps Fz w us → aG (sJ us ps) Fz w us []
  | [], us, _, h => by
    have h : us = [] := h
    subst h; exact ⟨rfl, rfl⟩
  | p :: ps, us, hb, h => by
    obtain ⟨v, vs, rfl, h1, h2⟩ := h
    exact ⟨v, vs, [], [], rfl, rfl, ⟨rfl, hb p (by simp) h1⟩, uY (fun q hq => hb q (by simp [hq])) h2⟩
def gK (h : Nat → Value) : Nat → List PV → List PV
  | _, [] => []
  | i, p :: ps => PV.nv (h i) p :: gK h (i + 1) ps
def yz (h : Nat → Value) : ∀ (ps : List PV) (i : Nat), gK h i ps = sJ ((List.range' i ps.length).map h) ps
  | [], i => rfl
  | p :: ps, i => by rw [gK, yz h ps (i + 1)]; rfl
def bS {α : Type} (e : Nat) (zs : List (α × (Nat → Value))) : List Value := (zs.map fun z => (List.range e).map z.2).flatten
def bT {α : Type} (f : α → List PV) (zs : List (α × (Nat → Value))) : List PV := (zs.map fun z => f z.1).flatten
def DK {e : Nat} {us : List Value} (h : us.length = e) : ∃ k : Nat → Value, us = (List.range e).map k := by
  refine ⟨fun i => us.getD i undef, ?_⟩
  subst h
  apply List.ext_getElem
  · simp
  · intro i h1 h2
    simp [h1]
def OK {α : Type} {f : α → List PV} {e : Nat} (hf : ∀ x, (f x).length = e) {Fz : av} {w : World} {zs ys : List (α × (Nat → Value))} (hp : zs.Perm ys) : ∀ {F : List Nat}, aG (bT f zs) Fz w (bS e zs) F → ∃ F', F.Perm F' ∧ aG (bT f ys) Fz w (bS e ys) F' := by
  have hone : ∀ {z : α × (Nat → Value)} {l : List (α × (Nat → Value))} {F : List Nat}, aG (bT f (z :: l)) Fz w (bS e (z :: l)) F → ∃ F1 F2, F = F1 ++ F2 ∧ aG (f z.1) Fz w ((List.range e).map z.2) F1 ∧ aG (bT f l) Fz w (bS e l) F2 := by
    intro z l F h
    have h : aG (f z.1 ++ bT f l) Fz w ((List.range e).map z.2 ++ bS e l) F := h
    obtain ⟨v1, v2, F1, F2, e1, rfl, h1, h2⟩ := h.split
    have hl : ((List.range e).map z.2).length = v1.length := by rw [h1.len, hf]; simp
    obtain ⟨rfl, rfl⟩ := List.append_inj e1 hl
    exact ⟨F1, F2, rfl, h1, h2⟩
  induction hp with
  | nil => intro F h; exact ⟨F, List.Perm.refl _, h⟩
  | cons z _ ih =>
    intro F h
    obtain ⟨F1, F2, rfl, h1, h2⟩ := hone h
    obtain ⟨F', k1, k2⟩ := ih h2
    exact ⟨F1 ++ F', gv F1 k1, h1.append k2⟩
  | swap z y l =>
    intro F h
    obtain ⟨F1, F2, rfl, h1, h2⟩ := hone h
    obtain ⟨F3, F4, rfl, h3, h4⟩ := hone h2
    refine ⟨F3 ++ (F1 ++ F4), ?_, h3.append (h1.append h4)⟩
    rw [← bl, ← bl]
    exact jy _ kg
  | trans _ _ ih1 ih2 =>
    intro F h
    obtain ⟨F1, k1, h1⟩ := ih1 h
    obtain ⟨F2, k2, h2⟩ := ih2 h1
    exact ⟨F2, k1.trans k2, h2⟩
section
variable {P : Program} {n : Nat} {h0 : Nat → Prop} {w0 : World} {Fz0 : av} {σ : St} {Q : Exit → St → Prop} {c : Code} {ops : Array Oper}
def DL {d t G : Nat} {cs qs : List PV} (hd : σ.b d = some (t, cs)) (hG : σ.s G = none) (hq : ao cs qs) (hb : ab qs) (h : ∀ us : List Value, (∃ Fz w, bZ cs Fz w us) → SW P n h0 w0 Fz0 c ((σ.setB d (some (t, sJ us qs))).set G (some (RV.gh us cs))) Q) : SW P n h0 w0 Fz0 c σ Q := fun a w hc => by
  obtain ⟨φ, Fz, Fp, hc⟩ := hc
  obtain ⟨cur, h1, h2⟩ := hc.box d _ hd
  have k0 := hc.pull G
  have e0 : ∀ i rv, (σ.set G none).s i = some rv → i ≠ G ∧ σ.s i = some rv := fun i rv hi => by
    rw [St.set_s] at hi
    split at hi
    · cases hi
    · rename_i hne; exact ⟨hne, hi⟩
  have hne : mv Fp (2 * G + 1) (2 * d + 2) = Fp (2 * d + 2) := by
    simp only [mv]; rw [if_neg (by omega), if_neg (by omega)]
  have hgn : mv Fp (2 * G + 1) (2 * G + 1) = [] := by simp [mv]
  generalize hFp1 : mv Fp (2 * G + 1) = Fp1 at k0 hne hgn
  refine h cur.toList ⟨Fz, w, h2.rel⟩ a w ⟨φ, Fz, ko Fp1 (2 * d + 2) (2 * G + 1), ?_⟩
  have hsub : ∀ r b, b ∈ ko Fp1 (2 * d + 2) (2 * G + 1) r → ∃ r', b ∈ Fp1 r' := fun r b hb => by
    rcases yk hb with ⟨_, k⟩ | ⟨_, _, k⟩
    · exact ⟨_, k⟩
    · exact ⟨_, k⟩
  exact { k0 with
    slot := fun i rv hi => by
      rw [St.set_s] at hi
      split at hi
      · rename_i e
        subst e
        injection hi with hi
        subst hi
        show aG cs Fz w cur.toList (ko Fp1 (2 * d + 2) (2 * i + 1) (2 * i + 1))
        simp only [ko, if_true]
        rw [hne]; exact h2
      · rename_i e
        have := k0.slot i rv (by rw [St.set_s, if_neg e]; exact hi)
        simp only [ko]
        rw [if_neg (by omega), if_neg (by omega)]
        exact this
    box := fun e bx he => by
      rw [St.set_b, St.setB_b] at he
      split at he
      · rename_i e'; subst e'; injection he with he; subst he
        refine ⟨cur, h1, ?_⟩
        simp only [ko]
        rw [if_neg (by omega), if_pos (by trivial)]
        exact uY hb (hq.rel h2.rel)
      · rename_i e'
        obtain ⟨cur', k1, k2⟩ := k0.box e bx he
        refine ⟨cur', k1, ?_⟩
        simp only [ko]
        rw [if_neg (by omega), if_neg (by omega)]
        exact k2
    bxb := fun e bx he => by
      have : ∃ z, (σ.set G none).b e = some z := by
        rw [St.set_b, St.setB_b] at he
        split at he
        · rename_i e'; subst e'; exact ⟨_, hd⟩
        · exact ⟨_, he⟩
      obtain ⟨z, hz⟩ := this
      obtain ⟨g1, g2, g3⟩ := k0.bxb e z hz
      exact ⟨g1, g2, fun r hr => by obtain ⟨r', h'⟩ := hsub r _ hr; exact g3 r' h'⟩
    inj := fun e e' c1 c2 he he' => by
      have f : ∀ x y, ((σ.setB d (some (t, sJ cur.toList qs))).set G (some (RV.gh cur.toList cs))).b x = some y → ∃ z, (σ.set G none).b x = some z := by
        intro x y hx
        rw [St.set_b, St.setB_b] at hx
        split at hx
        · rename_i e'; subst e'; exact ⟨_, hd⟩
        · exact ⟨_, hx⟩
      obtain ⟨z1, f1⟩ := f _ _ he
      obtain ⟨z2, f2⟩ := f _ _ he'
      exact k0.inj e e' z1 z2 f1 f2
    dis := Ow k0.dis
    nod := Ox k0.nod
    low := fun r b hb => by obtain ⟨r', h'⟩ := hsub r b hb; exact k0.low r' b h' }
def DM {T T2 : TypeId} {x y : Operand} {d : Nat} {ty : TypeId} {pos : String} {af : Array Edge} {g : Option (Nat × Bool)} {k k2 : IntKind} {i j : Int} {m : Nat} (hm : j = (m : Int)) (hb : m ≤ k.bits) (hx : bu x (RV.sc (.int k i)) := by first | exact True.intro | exact aJ rfl) (hy : bu y (RV.sc (.int k2 j)) := by first | exact True.intro | exact aJ rfl) (hd : d < n := by decide) :
    Loc P n ⟨some d, .binOp .shr T x y T2, ty, pos, af, g⟩ ⟨bd x (RV.sc (.int k i)) ++ bd y (RV.sc (.int k2 j)), [], [(d, some (RV.sc (.int k (i.fdiv (2 ^ m)))))], [], none⟩ := by
  subst hm
  refine fX hd hx hy rfl fun w => ?_
  have h1 : ¬ (m : Int) < 0 := by omega
  simp [eqGuard, binOp, Op.shift, h1, Nat.min_eq_left hb]
def OL {i : Int} : i.fdiv (2 ^ 1) = i / 2 := by rw [Int.fdiv_eq_ediv_of_nonneg _ (by decide)]; rfl
end
end
def aN.view {P : Program} {f : FuncId} {args : List (Bool × List PV)} {ag : Bool} {cs qs : List PV} (ht : ao cs qs) (hb : ab qs) (h : aN P f args (RV.sv ag cs)) : aN P f args (RV.sv ag qs) := fun w vs Fz hz hr => by
  refine (h w vs Fz hz hr).mono ?_
  rintro e w' ⟨v, Fz', F, e1, hb1, h1, h2, hv, hn, hF⟩
  exact ⟨v, Fz', [], e1, hb1, h1, h2, fun φ => Cp.sv ht hb (hv φ), List.nodup_nil, fun b hb => nomatch hb⟩
section
def hO (L : Nat → Prop) (r r' : RV) : Prop := ∀ {φ : Nat → Nat} {Fz : av} {w : World} {v : Value} {F : List Nat}, (∀ b o, Fz b o → L b) → r.holds φ Fz w v F → r'.holds φ Fz w v []
def hO.sv {L : Nat → Prop} {ag : Bool} {cs qs : List PV} (ht : aj L cs qs) (hb : ab qs) : hO L (RV.sv ag cs) (RV.sv ag qs) := fun hz h => ⟨h.1, hb.own (ht.rel hz h.2.rel)⟩
def hO.ptr {L : Nat → Prop} {d off : Nat} : hO L (RV.ptr d off) (RV.ptr d off) := fun _ h => ⟨h.1, rfl⟩
def it (L : Nat → Prop) : List (Nat × RV) → List (Nat × RV) → Prop
  | [], [] => True
  | p :: l, q :: l' => (p.1 = q.1 ∧ hO L p.2 q.2) ∧ it L l l'
  | _, _ => False
def it.cons {L : Nat → Prop} {i : Nat} {r r' : RV} {l l' : List (Nat × RV)} (h : hO L r r') (k : it L l l') : it L ((i, r) :: l) ((i, r') :: l') := ⟨⟨rfl, h⟩, k⟩
def it.at_ {L : Nat → Prop} {i : Nat} {r' : RV} : ∀ {l l' : List (Nat × RV)}, it L l l' → lk l' i = some r' → ∃ r, lk l i = some r ∧ hO L r r'
  | [], [], _, h => by cases h
  | (j, r) :: l, (j', q) :: l', k, h => by
    obtain ⟨⟨e, k1⟩, k2⟩ := k
    dsimp only at e
    subst e
    rw [lk, beq_eq] at h ⊢
    by_cases hx : i = j
    · rw [decide_eq_true hx] at h ⊢
      simp only [cond_true, Option.some.injEq] at h ⊢
      subst h
      exact ⟨r, rfl, k1⟩
    · rw [decide_eq_false hx] at h ⊢
      simp only [cond_false] at h ⊢
      exact it.at_ k2 h
section
variable {P : Program} {n : Nat} {h0 : Nat → Prop} {w0 : World} {Fz0 : av} {Q : Exit → St → Prop} {c : Code}
end
end
section
section
variable {P : Program} {n : Nat} {h0 : Nat → Prop} {w0 : World} {Fz0 : av}
section
variable {σ : St} {a : Act} {w : World} {φ : Nat → Nat} {Fz : av} {Fp : Nat → List Nat}
def bo.ghost (h : bo h0 w0 Fz0 n σ a w φ Fz Fp) {i : Nat} {rv : RV} {F X : List Nat} (hv : rv.holds φ Fz w (a.tmps.getD i undef) F) (hX : ∀ b, b ∈ F ++ X → b ∈ Fp 0) (hn : (F ++ X).Nodup) :
    bo h0 w0 Fz0 n (σ.set i (some rv)) a w φ Fz (cu Fp (2 * i + 1) F X) where
  bel := h.bel
  dfr := h.dfr
  siz := h.siz
  hlt := h.hlt
  fz0 := h.fz0
  fzl := h.fzl
  slot j rv' hj := by
    rw [St.set_s] at hj
    split at hj
    · rename_i hji
      subst hji
      injection hj with hj
      subst hj
      unfold cu
      rw [if_pos rfl]; exact hv
    · rename_i hne
      unfold cu
      rw [if_neg (by omega), if_neg (by omega)]
      exact h.slot j rv' hj
  box d cs hd := by
    obtain ⟨cur, h1, h2⟩ := h.box d cs hd
    refine ⟨cur, h1, ?_⟩
    unfold cu
    rw [if_neg (by omega), if_neg (by omega)]; exact h2
  bxb d cs hd := by
    obtain ⟨h1, h2, h3⟩ := h.bxb d cs hd
    refine ⟨h1, h2, fun r hr => ?_⟩
    rcases lC hr with ⟨_, hr⟩ | ⟨_, _, hr⟩ | ⟨_, _, hr⟩
    · exact h3 0 (hX _ (by simp [hr]))
    · exact h3 0 (hX _ (by simp [hr]))
    · exact h3 _ hr
  inj d d' cs cs' := h.inj d d' cs cs'
  dis := uz (by omega) hX hn h.dis
  nod := uA hn h.nod
  low r b hb := by
    rcases lC hb with ⟨_, hr⟩ | ⟨_, _, hr⟩ | ⟨_, _, hr⟩
    · exact h.low 0 b (hX _ (by simp [hr]))
    · exact h.low 0 b (hX _ (by simp [hr]))
    · exact h.low _ b hr
end
section
variable {ops : Array Oper} {Q : Exit → St → Prop}
end
def pE (r r' : RV) : Prop := ∀ {φ : Nat → Nat} {Fz : av} {w : World} {v : Value} {F : List Nat}, r.holds φ Fz w v F → r'.holds φ Fz w v F
def pE.refl {r : RV} : pE r r := fun h => h
def pE.sv {ag : Bool} {cs qs : List PV} (h : fw cs qs) : pE (RV.sv ag cs) (RV.sv ag qs) := fun hh => ⟨hh.1, h hh.2⟩
def pF (f : Nat → Option RV) (G : Nat) : List (Nat × RV) → Prop
  | [] => True
  | p :: l' => (Nat.beq p.1 G = false ∧ ∃ r, f p.1 = some r ∧ pE r p.2) ∧ pF f G l'
def pF.cons {f : Nat → Option RV} {G i : Nat} {r r' : RV} {l' : List (Nat × RV)} (h1 : Nat.beq i G = false) (h2 : f i = some r) (h3 : pE r r') (k : pF f G l') : pF f G ((i, r') :: l') := ⟨⟨h1, r, h2, h3⟩, k⟩
def pF.at_ {f : Nat → Option RV} {G i : Nat} {r' : RV} : ∀ {l' : List (Nat × RV)}, pF f G l' → (i, r') ∈ l' → i ≠ G ∧ ∃ r, f i = some r ∧ pE r r'
  | [], _, h => by simp at h
  | p :: l', k, h => by
    rcases List.mem_cons.1 h with rfl | h
    · exact ⟨fun e => by have := k.1.1; dsimp only at this; rw [e] at this; simp at this, k.1.2⟩
    · exact pF.at_ k.2 h
variable {Q : Exit → St → Prop} {c : Code}
def DN {σ : St} {s : Nat} {ag : Bool} {cs : List PV} (qs : List PV) (hs : σ.s s = some (RV.sv ag cs)) (ht : ao cs qs) (hb : ab qs) (h : SW P n h0 w0 Fz0 c (σ.set s (some (RV.sv ag qs))) Q) : SW P n h0 w0 Fz0 c σ Q := fun a w hc => by
  obtain ⟨φ, Fz, Fp, hc⟩ := hc
  have hv : cc ag cs Fz w (a.tmps.getD s undef) (Fp (2 * s + 1)) := hc.slot s _ hs
  have c1 := (hc.pull s).reslot (s := s) (rv := RV.sv ag qs) (by
    have : mv Fp (2 * s + 1) (2 * s + 1) = [] := by simp [mv]
    rw [this]
    exact ⟨hv.1, hb.own (ht.rel hv.2.rel)⟩)
  exact h a w (aZ.eqv ⟨φ, Fz, _, c1⟩ (fun i => by
    simp only [St.set_s]
    split <;> rfl) (fun d => rfl))
def kY (L : Nat → Prop) : List (Nat × (Nat × List PV)) → List (Nat × (Nat × List PV)) → Prop
  | [], [] => True
  | p :: b, q :: b' => (p.1 = q.1 ∧ p.2.1 = q.2.1 ∧ aj L p.2.2 q.2.2 ∧ ab q.2.2) ∧ kY L b b'
  | _, _ => False
def kY.cons {L : Nat → Prop} {d t : Nat} {cs qs : List PV} {b b' : List (Nat × (Nat × List PV))} (h1 : aj L cs qs) (h2 : ab qs) (k : kY L b b') : kY L ((d, (t, cs)) :: b) ((d, (t, qs)) :: b') := ⟨⟨rfl, rfl, h1, h2⟩, k⟩
def kY.at_ {L : Nat → Prop} {d t : Nat} {qs : List PV} : ∀ {b b' : List (Nat × (Nat × List PV))}, kY L b b' → lk b' d = some (t, qs) → ∃ cs, lk b d = some (t, cs) ∧ aj L cs qs ∧ ab qs
  | [], [], _, h => by cases h
  | (j, (s, r)) :: l, (j', (s', q)) :: l', k, h => by
    obtain ⟨⟨e, e2, k1⟩, k2⟩ := k
    dsimp only at e e2 k1
    subst e e2
    rw [lk, beq_eq] at h ⊢
    by_cases hx : d = j
    · rw [decide_eq_true hx] at h ⊢
      simp only [cond_true, Option.some.injEq, Prod.mk.injEq] at h ⊢
      obtain ⟨rfl, rfl⟩ := h
      exact ⟨r, ⟨rfl, rfl⟩, k1⟩
    · rw [decide_eq_false hx] at h ⊢
      simp only [cond_false] at h ⊢
      exact kY.at_ k2 h
def uZ {l : List (Nat × RV)} {b : List (Nat × (Nat × List PV))} (l' : (Nat → Prop) → List (Nat × RV)) (b' : (Nat → Prop) → List (Nat × (Nat × List PV))) (hl : ∀ L, it L l (l' L)) (hb : ∀ L, kY L b (b' L)) (h : ∀ (B : Nat → Prop) (w1 : World) (Fz1 : av), SW P n B w1 Fz1 c (St.of (l' B) (b' B)) Q) : SW P n h0 w0 Fz0 c (St.of l b) Q := fun a w hc => by
  obtain ⟨φ, Fz, Fp, hc⟩ := hc
  obtain ⟨B, hB⟩ : ∃ B : Nat → Prop, B = fun x => x < w.heap.size ∧ ∀ d bx, lk b d = some bx → x ≠ φ d := ⟨_, rfl⟩
  have hBi : ∀ x, B x ↔ (x < w.heap.size ∧ ∀ d bx, lk b d = some bx → x ≠ φ d) := fun x => by rw [hB]
  have hz : ∀ x o, Fz x o → B x := fun x o ho => (hBi x).2 ⟨hc.fzl x o ho, fun d bx hd e => (hc.bxb d bx hd).2.1 o (e ▸ ho)⟩
  have hin : ∀ x, h0 x → B x := fun x hx => (hBi x).2 ⟨hc.hlt x hx, fun d bx hd e => (hc.bxb d bx hd).1 (e ▸ hx)⟩
  have hbx : ∀ d bx, lk (b' B) d = some bx → ∃ cs, lk b d = some (bx.1, cs) ∧ aj B cs bx.2 ∧ ab bx.2 := fun d bx hd => (hb B).at_ hd
  have hk : aZ B w Fz n (St.of (l' B) (b' B)) a w := ⟨φ, Fz, fun _ => [], {
    bel := lB.refl _ _
    dfr := hc.dfr
    siz := hc.siz
    hlt := fun x hx => ((hBi x).1 hx).1
    fz0 := fun _ _ _ => Iff.rfl
    fzl := hc.fzl
    slot := fun i rv hi => by
      obtain ⟨r, hr, hlow⟩ := (hl B).at_ (show lk (l' B) i = some rv from hi)
      exact hlow hz (hc.slot i r hr)
    box := fun d bx hd => by
      obtain ⟨cs, k1, k2, k3⟩ := hbx d bx hd
      obtain ⟨cur, q1, q2⟩ := hc.box d _ k1
      exact ⟨cur, q1, k3.own (k2.rel hz q2.rel)⟩
    bxb := fun d bx hd => by
      obtain ⟨cs, k1, _⟩ := hbx d bx hd
      exact ⟨fun hx => ((hBi _).1 hx).2 d _ k1 rfl, (hc.bxb d _ k1).2.1, fun _ hr => nomatch hr⟩
    inj := fun d d' c1 c2 h1 h2 => by
      obtain ⟨_, k1, _⟩ := hbx d c1 h1
      obtain ⟨_, k2, _⟩ := hbx d' c2 h2
      exact hc.inj d d' _ _ k1 k2
    dis := fun _ _ _ _ hb => nomatch hb
    nod := fun _ => List.nodup_nil
    low := fun _ _ hb => nomatch hb }⟩
  refine wp_mono (h B w Fz a w hk) fun e a' w' ⟨τ, hq, hc'⟩ => ⟨τ, hq, ?_⟩
  obtain ⟨φ', Fz', Fp', c'⟩ := hc'
  exact ⟨φ', Fz', Fp', {
    bel := hc.bel.trans ⟨c'.bel.os, c'.bel.tape, c'.bel.output, c'.bel.size, fun k hk' => c'.bel.block k (hin k hk')⟩
    dfr := c'.dfr
    siz := c'.siz
    hlt := fun x hx => Nat.lt_of_lt_of_le (hc.hlt x hx) c'.bel.size
    fz0 := fun x o hx => (c'.fz0 x o (hin x hx)).trans (hc.fz0 x o hx)
    fzl := c'.fzl
    slot := c'.slot
    box := c'.box
    bxb := fun d cs hd => ⟨fun hh => (c'.bxb d cs hd).1 (hin _ hh), (c'.bxb d cs hd).2⟩
    inj := c'.inj
    dis := c'.dis
    nod := c'.nod
    low := fun r x hx => ⟨fun hh => (c'.low r x hx).1 (hin _ hh), (c'.low r x hx).2⟩ }⟩
end
end
section
def yA (P : Program) (f : FuncId) (t : Nat) (args : List (Bool × List PV)) (cs : List PV) : Prop :=
  ∀ (w : World) (vs : List Value) (Fz : av), (∀ b o, Fz b o → b < w.heap.size) → ez args Fz w vs → Calls P f vs.toArray w fun e w' => ∃ g Fz' cur, e = .returned (.pointer (some ⟨g, 0, none⟩)) ∧ Below w.heap.size w w' ∧
    (∀ b o, b < w.heap.size → (Fz' b o ↔ Fz b o)) ∧ (∀ b o, Fz' b o → b < w'.heap.size) ∧ w.heap.size ≤ g ∧ w'.heap[g]? = some (.cells cur t (0, 0)) ∧ (∀ o, ¬ Fz' g o) ∧ aG cs Fz' w' cur.toList []
def yB (rs t : Nat) (cs : List PV) (τ : St) : Prop := ∃ D, τ.s rs = some (RV.ptr D 0) ∧ τ.b D = some (t, cs)
def OM (rs t : Nat) (cs : List PV) : Exit → St → Prop
  | .normal, τ => yB rs t cs τ
  | .ret, τ => yB rs t cs τ
  | _, _ => False
section
variable {P : Program} {n : Nat} {h0 : Nat → Prop} {w0 : World} {Fz0 : av}
def ON {f : FuncId} {fn : Func} {c : Code} {args : List (Bool × List PV)} {rs t : Nat} {cs : List PV} (hf : P.funcs[f]? = some fn) (hb : fn.body = some c) (hres0 : fn.results.toList = [.tmp rs]) (hn : args.length ≤ fn.ntmps) (hbor : ∀ q, q ∈ args → ab q.2) (hbc : ab cs)
    (h : ∀ (h0 : Nat → Prop) (w0 : World) (Fz0 : av), SW P fn.ntmps h0 w0 Fz0 c (St.of (fZ 0 args) []) (OM rs t cs)) : yA P f t args cs := by
  intro w vs Fz hz hrel
  have hvl := hrel.len
  refine calls_of_wp hf hb ?_
  have hc : aZ (fun b => b < w.heap.size) w Fz fn.ntmps (St.of (fZ 0 args) []) { tmps := vs.toArray ++ Array.replicate (fn.ntmps - vs.toArray.size) undef, defers := [] } w := by
    refine ⟨fun _ => 0, Fz, fun _ => [], ⟨lB.refl _ _, rfl, by simp; omega, fun _ hb => hb, fun _ _ _ => Iff.rfl, hz, fun i rv hi => ?_, fun d cs hd => (by cases hd), fun d cs hd => (by cases hd), fun d d' cs cs' hd => (by cases hd), fun _ _ _ b hb => (by simp at hb), fun _ => List.nodup_nil, fun _ b hb => (by simp at hb)⟩⟩
    obtain ⟨j, v, e1, e2, e3, e4⟩ := BorT.own (φ := fun _ => 0) hbor hrel hi
    rw [Nat.zero_add] at e1
    subst e1
    have : (vs.toArray ++ Array.replicate (fn.ntmps - vs.toArray.size) undef).getD i undef = v := by
      rw [Array.getD_eq_getD_getElem?, Array.getElem?_append_left (by simpa using e2)]
      simp [e3]
    rw [this]; exact e4
  refine wp_mono (h _ w Fz _ w hc) fun e a' w' ⟨τ, hq, hc'⟩ => ?_
  obtain ⟨φ, Fz', Fp, hc'⟩ := hc'
  have hres : yB rs t cs τ → a'.defers = [] ∧ ∃ v, (results fn a'.tmps).run P w' = .ok v w' ∧ ∃ g Fz' cur, Ending.returned v = .returned (.pointer (some ⟨g, 0, none⟩)) ∧ Below w.heap.size w w' ∧
      (∀ b o, b < w.heap.size → (Fz' b o ↔ Fz b o)) ∧ (∀ b o, Fz' b o → b < w'.heap.size) ∧ w.heap.size ≤ g ∧ w'.heap[g]? = some (.cells cur t (0, 0)) ∧ (∀ o, ¬ Fz' g o) ∧ aG cs Fz' w' cur.toList [] := by
    rintro ⟨D, k1, k2⟩
    have hp := (hc'.slot rs _ k1).1
    obtain ⟨cur, q1, q2⟩ := hc'.box D _ k2
    obtain ⟨m1, m2, m3⟩ := hc'.bxb D _ k2
    refine ⟨hc'.dfr, ?_⟩
    rw [yg]
    have erun : Sem.run P (fn.results.mapM (nn a'.tmps)) w' = .ok #[.pointer (some ⟨φ D, 0, none⟩)] w' := by
      rw [Array.mapM_eq_mapM_toList, hres0]
      simp only [map_eq_pure_bind, List.mapM_cons, List.mapM_nil, nn, Sem.run_bind, Sem.run_pure, Result.andThen_ok, hp]
    simp only [Sem.run_bind, erun, Result.andThen_ok, Sem.run_pure]
    exact ⟨_, rfl, φ D, Fz', cur, rfl, ⟨hc'.bel.os, hc'.bel.tape, hc'.bel.output, hc'.bel.size, hc'.bel.block⟩, hc'.fz0, hc'.fzl, Nat.le_of_not_lt m1, q1, m2, hbc.own q2.rel⟩
  cases e with
  | normal => exact hres hq
  | ret => exact hres hq
  | _ => exact hq.elim
def OO {f d t : Nat} {args : Array Operand} {tys : Array TypeId} {ty : TypeId} {pos : String} {af : Array Edge} {g : Option (Nat × Bool)} {qs as_ : List (Bool × List PV)} {cs : List PV} (hd : d < n) (hf : aE P f = true) (hok : kk args.toList qs) (hto : jA qs as_) (hs : yA P f t as_ cs) :
    Loc P n ⟨some d, .call { callee := .value (.func f), args := args, argTypes := tys }, ty, pos, af, g⟩ ⟨io args.toList qs, [], [(d, some (RV.ptr d 0))], [(d, some (t, cs))], some d⟩ := by
  intro h0 w0 Fz0 σ a w K Q hc hr _ h4 h5
  obtain ⟨φ, Fz, Fp, hc⟩ := hc
  have hrel := hto.rel (hc.relT hr hok)
  unfold Oper.wp
  rw [DI hf, Oper.upon_enter]
  refine (hs w _ Fz hc.fzl hrel).mono ?_
  rintro e w' ⟨G, Fz', cur, rfl, hbl, hz1, hz2, hG, hg, hgz, ho⟩
  refine h5 _ _ ?_
  have hglt : G < w'.heap.size := (Array.getElem?_eq_some_iff.1 hg).1
  have k := (hc.drop d).world (w' := w') (Fz' := Fz') (X := [G]) hbl.os hbl.tape hbl.output hbl.size (fun b hb' _ => ⟨hbl.block b hb', fun o ho => (hz1 b o hb').1 ho⟩)
    (fun b o ho => ⟨(hz1 b o (hc.fzl b o ho)).2 ho, World.cell?_of_block (hbl.block b (hc.fzl b o ho))⟩) hz2 (fun b hb' => .inr (by
      rw [List.mem_singleton] at hb'; subst hb'; exact ⟨hG, hglt⟩)) (by simp)
  have k2 := k.pushB (d := d) (g := G) (t := t) (cs := cs) (F := []) (X := []) (by rw [St.setB_b, if_pos rfl]) hg ho hgz (fun b hb => by simpa using hb) (by simp) (.inr (h4 d rfl))
  have k3 := k2.push (i := d) (rv := RV.ptr d 0) (v := .pointer (some ⟨G, 0, none⟩)) (F := []) (X := []) hd ⟨by simp, rfl⟩ (fun b hb => nomatch hb) (by simp)
  exact aZ.eqv ⟨_, _, _, k3⟩ (fun i => rfl) (fun e => by
    show bJ [(d, some (t, cs))] σ.b e = _
    rw [St.set_b, St.setB_b, St.setB_b]
    simp only [bJ, beq_eq]
    by_cases he : e = d <;> simp [he])
end
def hP {P : Program} {n x d b off : Nat} {ty : TypeId} {pos : String} {af : Array Edge} {g : Option (Nat × Bool)} (hd : d < n) : Loc P n ⟨some d, .nilCheck (.tmp x), ty, pos, af, g⟩ ⟨[(x, RV.ptr b off)], [], [(d, some (RV.ptr b off))], [], none⟩ := by
  intro h0 w0 Fz0 σ a w K Q h1 h2 _ _ h5
  obtain ⟨φ, Fz, Fp, hc⟩ := h1
  have ex := (hc.slot x _ h2.1).1
  refine en (v := .pointer (some ⟨φ b, off, none⟩)) (w' := w) ?_ (h5 _ _ (hc.put0 hd (r := RV.ptr b off) ⟨rfl, rfl⟩))
  unfold execOp
  simp only [Act.eval, ex, Sem.run_pure]
def hO.phi {L : Nat → Prop} {D g : Nat} : hO L (RV.phi D g) (RV.phi D g) := fun _ h => ⟨h.1, rfl⟩
section
variable {P : Program} {n : Nat} {h0 : Nat → Prop} {w0 : World} {Fz0 : av} {σ : St} {Q : Exit → St → Prop} {c : Code}
def OP {d t : Nat} {cs : List PV} (cs' : List PV) (hd : σ.b d = some (t, cs)) (ho : fw cs cs') (h : SW P n h0 w0 Fz0 c (σ.setB d (some (t, cs'))) Q) : SW P n h0 w0 Fz0 c σ Q := fun a w hc => by
  obtain ⟨φ, Fz, Fp, hc⟩ := hc
  exact h a w ⟨φ, Fz, Fp, hc.rebox hd fun _ k _ => ho k⟩
end
def va (x y : Int) : Int := IntKind.i64.wrap (x * y)
def pG (x y : Int) : Int := IntKind.i64.wrap (x + y)
def nq (x y : Int) : Int := IntKind.i64.wrap (BitVec.ofInt 64 x &&& BitVec.ofInt 64 y).toNat
def yC (x y : Int) : Int := IntKind.i64.wrap (BitVec.ofInt 64 x ^^^ BitVec.ofInt 64 y).toNat
def DO {x : Int} {m : Nat} (hm : m < 2 ^ 62) : 0 ≤ nq x (m : Int) ∧ nq x (m : Int) ≤ m := by
  have e : (BitVec.ofInt 64 (m : Int)).toNat = m := by
    rw [BitVec.toNat_ofInt]
    omega
  have h : (BitVec.ofInt 64 x &&& BitVec.ofInt 64 (m : Int)).toNat ≤ m := by
    rw [BitVec.toNat_and, e]; exact Nat.and_le_right
  unfold nq
  rw [IntWalk.i64_in _ (by omega)]
  omega
section
variable {P : Program} {n : Nat} {T T2 : TypeId} {x y : Operand} {d : Nat} {ty : TypeId} {pos : String} {af : Array Edge} {g : Option (Nat × Bool)} {i j : Int}
def DP (hd : d < n) (hx : bu x (RV.int i)) (hy : bu y (RV.int j)) : Loc P n ⟨some d, .binOp .mul T x y T2, ty, pos, af, g⟩ ⟨bd x (RV.int i) ++ bd y (RV.int j), [], [(d, some (RV.int (va i j)))], [], none⟩ :=
  fX hd hx hy rfl fun w => by simp [eqGuard, binOp, Op.intArith, va]
def vb (hd : d < n) (hx : bu x (RV.int i)) (hy : bu y (RV.int j)) : Loc P n ⟨some d, .binOp .add T x y T2, ty, pos, af, g⟩ ⟨bd x (RV.int i) ++ bd y (RV.int j), [], [(d, some (RV.int (pG i j)))], [], none⟩ :=
  fX hd hx hy rfl fun w => by simp [eqGuard, binOp, Op.intArith, pG]
def yD (hd : d < n) (hx : bu x (RV.int i)) (hy : bu y (RV.int j)) : Loc P n ⟨some d, .binOp .and T x y T2, ty, pos, af, g⟩ ⟨bd x (RV.int i) ++ bd y (RV.int j), [], [(d, some (RV.int (nq i j)))], [], none⟩ :=
  fX hd hx hy rfl fun w => by simp [eqGuard, binOp, Op.intBits, IntKind.bits]; unfold nq; rw [BitVec.toNat_and, BitVec.toNat_ofInt, BitVec.toNat_ofInt]; rfl
def OQ (hd : d < n) (hx : bu x (RV.int i)) (hy : bu y (RV.int j)) : Loc P n ⟨some d, .binOp .xor T x y T2, ty, pos, af, g⟩ ⟨bd x (RV.int i) ++ bd y (RV.int j), [], [(d, some (RV.int (yC i j)))], [], none⟩ :=
  fX hd hx hy rfl fun w => by simp [eqGuard, binOp, Op.intBits, IntKind.bits]; unfold yC; rw [BitVec.toNat_xor, BitVec.toNat_ofInt, BitVec.toNat_ofInt]; rfl
end
end
section
abbrev bW := List UInt8
abbrev B (l : bW) : ByteArray := ⟨l.toArray⟩
abbrev RV.str (l : bW) : RV := RV.sc (.string (B l))
section
variable {P : Program} {n : Nat} {T T2 : TypeId} {x y : Operand} {d : Nat} {ty : TypeId} {pos : String} {af : Array Edge} {g : Option (Nat × Bool)} {s t : bW}
def OR {w : World} (h : s.length + t.length ≤ 9223372036854775807) : Sem.run P (do eqGuard .add T x y (.string (B s)) (.string (B t)); binOp .add T (.string (B s)) (.string (B t)) : Sem Value) w = .ok (.string (B (s ++ t))) w := by
  have e := run_string_add_sum (P := P) w (B s) (B t) h
  rw [ByteArray.mk_append_mk] at e
  simp [eqGuard, binOp, e]
def dN (hx : bu x (RV.str s) := by first | exact True.intro | exact aJ rfl) (hy : bu y (RV.str t) := by first | exact True.intro | exact aJ rfl) (h : s.length + t.length ≤ 9223372036854775807 := by (try simp only [aD, List.length_cons, List.length_nil]); omega) (hd : d < n := by decide) : Loc P n ⟨some d, .binOp .add T x y T2, ty, pos, af, g⟩ ⟨bd x (RV.str s) ++ bd y (RV.str t), [], [(d, some (RV.str (s ++ t)))], [], none⟩ :=
  fX hd hx hy rfl fun w => OR h
def sK (hx : bu x (RV.str s) := by first | exact True.intro | exact aJ rfl) (hy : bu y (RV.str t) := by first | exact True.intro | exact aJ rfl) (hd : d < n := by decide) : Loc P n ⟨some d, .binOp .eql T x y T2, ty, pos, af, g⟩ ⟨bd x (RV.str s) ++ bd y (RV.str t), [], [(d, some (RV.bool (s == t)))], [], none⟩ :=
  fX hd hx hy rfl fun w => by simp [eqGuard, binOp, Op.stringOp, ByteArray.toList_mk]
def DQ (hx : bu x (RV.str s) := by first | exact True.intro | exact aJ rfl) (hy : bu y (RV.str t) := by first | exact True.intro | exact aJ rfl) (hd : d < n := by decide) : Loc P n ⟨some d, .binOp .neq T x y T2, ty, pos, af, g⟩ ⟨bd x (RV.str s) ++ bd y (RV.str t), [], [(d, some (RV.bool (!(s == t))))], [], none⟩ :=
  fX hd hx hy rfl fun w => by simp [eqGuard, binOp, Op.stringOp, ByteArray.toList_mk]
def jE (xs : List Int) : bW := xs.map fun n => UInt8.ofNat n.toNat
def DR : ∀ (ns : List Int) (s : bW), ns.foldl (fun r n => r.push (UInt8.ofNat n.toNat)) (B s) = B (s ++ jE ns)
  | [], s => by simp [jE]
  | n :: ns, s => by
    rw [List.foldl_cons, show (B s).push (UInt8.ofNat n.toNat) = B (s ++ [UInt8.ofNat n.toNat]) from by apply ByteArray.ext; simp [ByteArray.push], DR ns]
    simp [jE]
def OS {T D e k : Nat} {xs : List Int} {o : Fl} {f : Int → List PV} (hS : P.underlying T = some (.slice e)) (he : P.underlying e = some (.int .u8)) (hD : P.underlying D = some .string) (hf : ∀ x, f x = [PV.val (.int .u8 x)]) (hd : d < n := by decide) :
    Loc P n ⟨some d, .convert T D (.tmp k), ty, pos, af, g⟩ ⟨[(k, RV.slc o (xs.map f))], [], [(d, some (RV.str (jE xs)))], [], none⟩ := by
  intro h0 w0 Fz0 σ a w K Q hc hr _ _ h5
  obtain ⟨φ, Fz, Fp, hc⟩ := hc
  obtain ⟨ad, c, e', u, ev, h1, h2, h3, h4, h6⟩ := hc.slrel hr.1
  have es' : a.eval (.tmp k) = .slice ad xs.length c := by rw [← am (f := f)]; exact ev
  refine en (v := .string (B (jE xs))) (w' := w) ?_ (h5 _ _ (hc.put0 hd (cc.of_sc rfl)))
  unfold execOp
  simp only [es', Sem.run_bind, run_convert_bytes_string _ _ _ _ _ _ _ hS he hD]
  rcases h4 with h4 | ⟨b, off, rfl, h4⟩
  · have hx : xs = [] := by simpa using h4
    subst hx
    cases ad with
    | none => simp [Conv.bytesToString, jE]; rfl
    | some ad =>
      rw [run_bytesToString w ad _ c [] (by simp [loadCells, loadCellsFrom])]
      simp [jE]; rfl
  · have hcells : ∀ (j : Nat) v, (xs.map (Value.int .u8))[j]? = some v → w.cell? ((⟨b, off, none⟩ : Addr).add j) = some v := by
      intro j v hv
      rw [List.getElem?_map, Option.map_eq_some_iff] at hv
      obtain ⟨x, hx, rfl⟩ := hv
      have hj : j < xs.length := (List.getElem?_eq_some_iff.1 hx).1
      have hm : (xs.map f)[j]? = some [PV.val (.int .u8 x)] := by rw [List.getElem?_map, hx, ← hf]; rfl
      have he1 : e' = 1 := (h3 _ (List.mem_of_getElem? hm)).symm
      subst he1
      have hu := (h6 j _ 0 _ hm rfl).1
      have := (h4 j 0 (by simpa using hj) (by decide)).2
      rw [hu] at this
      rw [mq]
      simpa using this
    have hl := run_loadCells_list (P := P) (w := w) ⟨b, off, none⟩ (xs.map (Value.int .u8)) hcells
    rw [am] at hl
    rw [run_bytesToString w _ _ c xs hl]
    have := DR xs []
    rw [show (B [] : ByteArray) = ByteArray.empty from rfl, List.nil_append] at this
    simp [this]
def OT {T D e k : Nat} {z : Int} {o : Fl} (hS : P.underlying T = some (.slice e)) (he : P.underlying e = some (.int .u8)) (hD : P.underlying D = some .string) (hd : d < n := by decide) :
    Loc P n ⟨some d, .convert T D (.tmp k), ty, pos, af, g⟩ ⟨[(k, RV.slc o [[PV.val (.int .u8 z)]])], [], [(d, some (RV.str (jE [z])))], [], none⟩ :=
  OS (xs := [z]) (f := fun x => [PV.val (.int .u8 x)]) hS he hD (fun _ => rfl) hd
def yE {i j : Int} (hx : bu x (RV.int i) := by first | exact True.intro | exact aJ rfl) (hy : bu y (RV.int j) := by first | exact True.intro | exact aJ rfl) (hj : j ≠ 0 := by omega) (h : aQ (i.tdiv j) := by unfold aQ; omega) (hd : d < n := by decide) : Loc P n ⟨some d, .binOp .quo T x y T2, ty, pos, af, g⟩ ⟨bd x (RV.int i) ++ bd y (RV.int j), [], [(d, some (RV.int (i.tdiv j)))], [], none⟩ :=
  fX hd hx hy rfl fun w => by
    have e : IntKind.i64.wrap (i.tdiv j) = i.tdiv j := IntWalk.i64_in _ h
    simp [eqGuard, binOp, Op.intDiv, hj, e]
def OU {i : Int} {k : Nat} (h : aQ (-i) := by unfold aQ; omega) (hd : d < n := by decide) : Loc P n ⟨some d, .unOp .neg T (.tmp k), ty, pos, af, g⟩ ⟨[(k, RV.int i)], [], [(d, some (RV.int (-i)))], [], none⟩ := by
  intro h0 w0 Fz0 σ a w K Q hc hr _ _ h5
  obtain ⟨φ, Fz, Fp, hc⟩ := hc
  have es' : a.eval (.tmp k) = .int .i64 i := (hc.one_ hr.1).1
  have e : IntKind.i64.wrap (-i) = -i := IntWalk.i64_in _ h
  refine en (v := .int .i64 (-i)) (w' := w) ?_ (h5 _ _ (hc.put0 hd (cc.of_sc rfl)))
  unfold execOp
  simp [es', Op.unary, Op.intArith, e]
end
structure nr where
  rel : av → World → Prop
  mono : ∀ {Fz Fz' : av} {w w' : World}, rel Fz w → fu Fz w Fz' w' → rel Fz' w'
def RV.glob (G : nr) : RV where
  holds _ Fz w _ F := G.rel Fz w ∧ F = []
  men _ := false
  mono h k _ _ := ⟨G.mono h.1 k, h.2⟩
  lt h := by rw [h.2]; simp
def iu (P : Program) (G : nr) (f : FuncId) (args : List (Bool × List PV)) (r : RV) : Prop :=
  ∀ (w : World) (vs : List Value) (Fz : av), (∀ b o, Fz b o → b < w.heap.size) → G.rel Fz w → ez args Fz w vs → Calls P f vs.toArray w fun e w' => ∃ v Fz' F, e = .returned v ∧ Below w.heap.size w w' ∧
    (∀ b o, b < w.heap.size → (Fz' b o ↔ Fz b o)) ∧ (∀ b o, Fz' b o → b < w'.heap.size) ∧ (∀ φ, r.holds φ Fz' w' v F) ∧ F.Nodup ∧ ∀ b, b ∈ F → w.heap.size ≤ b ∧ b < w'.heap.size
def aN.g {P : Program} {G : nr} {f : FuncId} {args : List (Bool × List PV)} {r : RV} (h : aN P f args r) : iu P G f args r := fun w vs Fz hz _ hr => h w vs Fz hz hr
section
variable {P : Program} {n : Nat} {G : nr}
def OV {f d : Nat} {args : Array Operand} {tys : Array TypeId} {ty : TypeId} {pos : String} {af : Array Edge} {g : Option (Nat × Bool)} {qs as_ : List (Bool × List PV)} {r : RV} (hd : d < n) (hf : aE P f = true) (hok : kk args.toList qs) (hto : jA qs as_) (hs : iu P G f as_ r) :
    Loc P n ⟨some d, .call { callee := .value (.func f), args := args, argTypes := tys }, ty, pos, af, g⟩ ⟨(7000, RV.glob G) :: io args.toList qs, [], [(d, some r)], [], none⟩ := by
  intro h0 w0 Fz0 σ a w K Q hc hr _ _ h5
  obtain ⟨φ, Fz, Fp, hc⟩ := hc
  have hG : G.rel Fz w := (hc.slot 7000 _ hr.1).1
  have hrel := hto.rel (hc.relT hr.2 hok)
  unfold Oper.wp
  rw [DI hf, Oper.upon_enter]
  refine (hs w _ Fz hc.fzl hG hrel).mono ?_
  rintro e w' ⟨v, Fz', F, rfl, hb, hz1, hz2, hv, hn, hF⟩
  refine h5 _ _ ?_
  have k := hc.world (w' := w') (Fz' := Fz') (X := F) hb.os hb.tape hb.output hb.size (fun b hb' _ => ⟨hb.block b hb', fun o ho => (hz1 b o hb').1 ho⟩)
    (fun b o ho => ⟨(hz1 b o (hc.fzl b o ho)).2 ho, World.cell?_of_block (hb.block b (hc.fzl b o ho))⟩) hz2 (fun b hb' => .inr (hF b hb')) hn
  exact ⟨φ, Fz', _, k.push (i := d) (rv := r) (v := v) (F := F) (X := []) hd (hv φ) (fun b hb => by simpa using hb) (by simpa using hn)⟩
def nt {f : FuncId} {fn : Func} {c : Code} {args rs : List (Bool × List PV)} (hf : P.funcs[f]? = some fn) (hb : fn.body = some c) (hn : args.length ≤ fn.ntmps) (hbor : ∀ q, q ∈ args → ab q.2)
    (h : ∀ (h0 : Nat → Prop) (w0 : World) (Fz0 : av), SW P fn.ntmps h0 w0 Fz0 c (St.of ((7000, RV.glob G) :: fZ 0 args) []) (sr P fn.results.toList rs)) : iu P G f args (aF rs) := by
  intro w vs Fz hz hG hrel
  refine yh hf hb hn hbor w Fz ?_ vs hz hrel
  intro a w' hc
  obtain ⟨φ, Fz', Fp, hc⟩ := hc
  have hG' : G.rel Fz' w' := G.mono hG fun b o hb => ⟨(hc.fz0 b o (hz b o hb)).2 hb, World.cell?_of_block (hc.bel.block b (hz b o hb))⟩
  have k := hc.pull 7000
  refine h _ w Fz a w' ⟨φ, Fz', _, { k with slot := fun i rv hi => ?_ }⟩
  by_cases h7 : i = 7000
  · subst h7
    have e : (St.of ((7000, RV.glob G) :: fZ 0 args) []).s 7000 = some (RV.glob G) := rfl
    rw [e] at hi
    injection hi with hi
    subst hi
    exact ⟨hG', by simp [mv]⟩
  · have e : (St.of ((7000, RV.glob G) :: fZ 0 args) []).s i = (St.of (fZ 0 args) []).s i := by
      simp [St.of, lk, beq_eq, h7]
    rw [e] at hi
    exact k.slot i rv (by rw [St.set_s, if_neg h7]; exact hi)
end
section
variable {P : Program} {G : nr} {f : FuncId}
def OW {w w' : World} (h : ∃ k os, w' = Sort.grow (w.drewN k) os) : Below w.heap.size w w' := by
  obtain ⟨k, os, rfl⟩ := h
  exact ⟨rfl, rfl, rfl, by simp [Sort.grow, World.drewN], fun b hb => by simp [Sort.grow, World.drewN, Array.getElem?_append_left hb]⟩
def vc {w w' : World} {Fz : av} {s : bW} (hz : ∀ b o, Fz b o → b < w.heap.size) (hb : Below w.heap.size w w') : ∃ v Fz' F, Ending.returned (.string (B s)) = .returned v ∧ Below w.heap.size w w' ∧
    (∀ b o, b < w.heap.size → (Fz' b o ↔ Fz b o)) ∧ (∀ b o, Fz' b o → b < w'.heap.size) ∧ (∀ φ, (RV.str s).holds φ Fz' w' v F) ∧ F.Nodup ∧ ∀ b, b ∈ F → w.heap.size ≤ b ∧ b < w'.heap.size :=
  ⟨_, Fz, [], rfl, hb, fun _ _ _ => Iff.rfl, fun b o h => Nat.lt_of_lt_of_le (hz b o h) hb.size, fun _ => cc.of_sc rfl, List.nodup_nil, fun b hb => by simp at hb⟩
def ni.sc {v x : Value} {Fz : av} {w : World} (h : ni false [PV.val x] Fz w v) : v = x := (cc.sc ⟨h.1, (ab.cons (PV.bor_val _) ab.nil).own h.2⟩).1
def ni.sl {v : Value} {es : List (List PV)} {Fz : av} {w : World} (h : ni false [PV.sl .v es] Fz w v) : mn es Fz w v :=
  (cc.atom (p := PV.sl .v es) ⟨h.1, (ab.cons (PV.bor_sl _) ab.nil).own h.2⟩).1
def OX (tab : ∀ {Fz w}, G.rel Fz w → Lib.TabIs P w "internal/strconv.uint64pow10" .u64 Lib.pow10Tab)
    (c : ∀ (n : Int), -9223372036854775808 ≤ n → n ≤ 9223372036854775807 → ∀ (w : World), Lib.TabIs P w "internal/strconv.uint64pow10" .u64 Lib.pow10Tab → Calls P f #[.int .i64 n] w fun e w' => e = .returned (.string ⟨(Lib.itoa n).toArray⟩) ∧ ∃ k os, w' = Sort.grow (w.drewN k) os)
    {n : Int} (hn : aQ n) : iu P G f [(false, [PV.val (vI n)])] (aF [(false, [PV.val (.string (B (Lib.itoa n)))])]) := by
  intro w vs Fz hz hG hr
  obtain ⟨v, vs', rfl, h1, rfl⟩ := hr
  have e : v = vI n := ni.sc h1
  subst e
  refine (c n hn.1 hn.2 w (tab hG)).mono ?_
  rintro e w' ⟨rfl, hw⟩
  exact vc hz (OW hw)
def dD (xs : List bW) (sep : bW) : bW := Lib.join xs sep
def OY {e : bW → List PV} (he : ∀ x, e x = [PV.val (.string (B x))])
    (c0 : ∀ (a : Option Addr) (c : Nat) (sep : ByteArray) (w : World), Calls P f #[.slice a 0 c, .string sep] w fun e w' => e = .returned (.string ⟨#[]⟩) ∧ w' = w)
    (c : ∀ (bk o c : Nat) (xs : List ByteArray) (sep : ByteArray) (w : World), (∀ (j : Nat) x, xs[j]? = some x → w.cell? ⟨bk, o + j, none⟩ = some (.string x)) → bk < w.heap.size → xs.length ≤ 140737488355328 → xs.length ≤ c → (Lib.join (xs.map (·.data.toList)) sep.data.toList).length ≤ 140737488355328 →
      Calls P f #[.slice (some ⟨bk, o, none⟩) xs.length c, .string sep] w fun e w' => e = .returned (.string ⟨(Lib.join (xs.map (·.data.toList)) sep.data.toList).toArray⟩) ∧ Below w.heap.size w w')
    {xs : List bW} {sep : bW} (hx : xs.length ≤ 140737488355328) (hl : (dD xs sep).length ≤ 140737488355328) : aN P f [(false, [PV.sl .v (xs.map e)]), (false, [PV.val (.string (B sep))])] (aF [(false, [PV.val (.string (B (dD xs sep)))])]) := by
  intro w vs Fz hz hr
  obtain ⟨v, vs', rfl, h1, v2, vs2, rfl, h2, rfl⟩ := hr
  have e2 : v2 = .string (B sep) := ni.sc h2
  subst e2
  obtain ⟨ad, cp, e', u, rfl, k1, k2, k3, k4, k5⟩ := ni.sl h1
  have em : (xs.map B).map (·.data.toList) = xs := by rw [List.map_map]; exact List.map_id _
  rw [am] at k1 k4 ⊢
  rcases k4 with k4 | ⟨b, off, rfl, k4⟩
  · have hx : xs = [] := by simpa using k4
    subst hx
    refine (c0 ad cp (B sep) w).mono ?_
    rintro e w' ⟨rfl, rfl⟩
    exact vc (s := []) hz (Below.refl _ _)
  · have hc : ∀ (j : Nat) x, (xs.map B)[j]? = some x → w.cell? ⟨b, off + j, none⟩ = some (.string x) ∧ Fz b (off + j) := by
      intro j x hj
      rw [List.getElem?_map, Option.map_eq_some_iff] at hj
      obtain ⟨y, hy, rfl⟩ := hj
      have hlt : j < xs.length := (List.getElem?_eq_some_iff.1 hy).1
      have hm : (xs.map e)[j]? = some [PV.val (.string (B y))] := by rw [List.getElem?_map, hy, ← he]; rfl
      have he1 : e' = 1 := (k3 _ (List.mem_of_getElem? hm)).symm
      subst he1
      have hu := (k5 j _ 0 _ hm rfl).1
      have := k4 j 0 hlt (by decide)
      rw [hu] at this
      simpa using this.symm
    by_cases h0 : xs = []
    · subst h0
      refine (c0 (some ⟨b, off, none⟩) cp (B sep) w).mono ?_
      rintro e w' ⟨rfl, rfl⟩
      exact vc (s := []) hz (Below.refl _ _)
    · have hlt : 0 < xs.length := List.length_pos_iff.2 h0
      have hb : b < w.heap.size := hz b _ (hc 0 (B (xs[0])) (by simp [hlt])).2
      have := c b off cp (xs.map B) (B sep) w (fun j x hj => (hc j x hj).1) hb (by simpa using hx) (by simpa using k1) (by rw [em]; exact hl)
      rw [em, am] at this
      refine this.mono ?_
      rintro e w' ⟨rfl, hw⟩
      exact vc hz hw
def OZ {Fz Fz' : av} {w w' : World} {g : Nat} {nm : String} {k : IntKind} {zs : List Int} (hg : P.globalNamed nm = some g) (hz : 0 < zs.length) (h : (∀ o, Fz g o) ∧ Lib.TabIs P w nm k zs) (hk : fu Fz w Fz' w') : (∀ o, Fz' g o) ∧ Lib.TabIs P w' nm k zs := by
  refine ⟨fun o => (hk g o (h.1 o)).1, ?_⟩
  have hc : ∀ o, w'.cell? ⟨g, o, none⟩ = w.cell? ⟨g, o, none⟩ := fun o => (hk g o (h.1 o)).2
  have h2 := h.2
  unfold Lib.TabIs World.var? at h2 ⊢
  rw [hg] at h2 ⊢
  simp only [Option.bind_some] at h2 ⊢
  cases hw : w.heap[g]? with
  | none => rw [hw] at h2; cases h2
  | some o =>
    cases o with
    | cells cs t fr =>
      rw [hw] at h2
      injection h2 with h2
      have hc1 : ∀ o, w.cell? ⟨g, o, none⟩ = cs[o]? := fun o => by simp [World.cell?, hw]
      have h0 : (w'.cell? ⟨g, 0, none⟩).isSome = true := by rw [hc, hc1, h2]; simp [hz]
      cases hw' : w'.heap[g]? with
      | none => simp [World.cell?, hw'] at h0
      | some o' =>
        cases o' with
        | cells cs' t' fr' =>
          have hc2 : ∀ o, w'.cell? ⟨g, o, none⟩ = cs'[o]? := fun o => by simp [World.cell?, hw']
          rw [← h2]
          show some cs' = some cs
          congr 1
          apply Array.ext_getElem?
          intro i
          rw [← hc2, hc, hc1]
        | _ => simp [World.cell?, hw'] at h0
    | _ => rw [hw] at h2; cases h2
def Pa (P : Program) (g : Nat) (hg : P.globalNamed "internal/strconv.uint64pow10" = some g) : nr where
  rel Fz w := (∀ o, Fz g o) ∧ Lib.TabIs P w "internal/strconv.uint64pow10" .u64 Lib.pow10Tab
  mono h k := OZ hg (by decide) h k
end
end
end Go.Proofs.YtmekkgdboplbjaaGreatDoor.M
namespace Go.Proofs.YtmekkgdboplbjaaGreatDoor.M
open Go Go.RowKit Go.ChangeShapes Go.WideShapes
section
section
variable {H : Type} {enc : TypeId × Value → H} {P : Program} {W W' : World}
def DS {sp : Nat → Bool} (hl : laidOutB P = true) (hsame : ∀ p : MemPlace, p.block < W.heap.size → W.sameAt W' p) : ∀ {ts : List TypeId} {vs : List Value} {ds : List (DataW H)} {ps : List MemPlace}, (ts.all fun t => P.readableRec t && Nat.blt t P.types.size) = true →
    DataW.TrodAll enc P W 0 (fun _ => true) true ts vs ds ps → (∀ p ∈ ps, p.block < W.heap.size) → (∀ p ∈ ps, sp p.block = true) → DataW.TrodAll enc P W' 0 sp true ts vs ds ps
  | [], vs, ds, ps, _, h, _, _ => by
    obtain ⟨rfl, rfl, rfl⟩ := trodAll_nil h
    exact trodAll_mk0
  | t :: ts, vs, ds, ps, ht, h, hlt, hs => by
    obtain ⟨v, vs', d, ds', p, q, rfl, rfl, rfl, h1, h2⟩ := trodAll_cons h
    rw [List.all_cons, aL, aL, Nat.blt_eq] at ht
    exact trodAll_cons_mk (WideElems.Trod_stays hl ht.1.1 ht.1.2 h1 (fun x hx => hsame x (hlt x (by simp [hx]))) (fun x hx => hs x (by simp [hx])))
      (DS hl hsame ht.2 h2 (fun x hx => hlt x (by simp [hx])) (fun x hx => hs x (by simp [hx])))
def Pb {f : Func} {s : ChangeSpec} {args : Array Value} {ds gs : List (DataW H)} {before : List MemPlace} {k : FuncId} {bt : TypeId} (hl : laidOutB P = true) (hr : (f.params.toList.all fun t => P.readableRec t && Nat.blt t P.types.size) = true)
    (hW : DataW.Whole enc P f.params.toList s.vars false W args.toList ds gs before) (hv : s.vars = []) (hrt : f.resultTypes = #[bt]) (hbt : P.underlying bt = some .bool) (hfn : s.fn H (ds ++ gs) = { results := [.lit (.bool true)], args := ds })
    (hcall : Calls P k args W fun e w' => e = .returned (.bool true) ∧ Below W.heap.size W w') :
    Calls P k args W fun e W' => ∃ v, e = .returned v ∧ s.post enc P f false true false false W args v W' := by
  refine hcall.mono fun e W' ⟨he, hb⟩ => ⟨_, he, ?_⟩
  have hlt : ∀ p ∈ before, p.block < W.heap.size := fun p hp => hW.lt p hp
  have hW' := hW
  obtain ⟨pa, q, hA, hV, rfl, hz, hn⟩ := hW
  rw [hv] at hV
  obtain ⟨rfl, rfl⟩ := trodVars_none hV
  have hres : ∀ (b : Nat) (sp : Nat → Bool) (hd : Bool), DataW.TrodAll enc P W' b sp hd f.resultTypes.toList ((Value.bool true).resultList f.resultTypes.size) (s.fn H (ds ++ [])).results [] := by
    intro b sp hd
    rw [hfn, hrt]
    exact trodAll_cons_mk (p' := []) (shut_bool hbt _) trodAll_mk0
  have hargs : ∀ sp : Nat → Bool, (∀ p ∈ pa ++ [], sp p.block = true) → DataW.TrodAll enc P W' 0 sp true f.params.toList args.toList (s.fn H (ds ++ [])).args pa := by
    intro sp hs
    rw [hfn]
    exact DS hl (fun p hp => hb.same hp) hr hA (fun p hp => hlt p (by simp [hp])) (fun p hp => hs p (by simp [hp]))
  have hvars : ∀ sp : Nat → Bool, DataW.TrodVars enc P W' sp s.vars (s.fn H (ds ++ [])).vars [] := by
    intro sp
    rw [hfn, hv]
    exact rfl
  have hold : ∀ p ∈ pa ++ [], (fun b => decide (b < W.heap.size)) p.block = true := fun p hp => by simpa using hlt p hp
  have hok : ∀ (j : Nat) (t : TypeId) (r : Value), f.resultTypes[j]? = some t → ((Value.bool true).resultList f.resultTypes.size)[j]? = some r → Value.okWide P W' .any 0 t r := ok_one hrt rfl (okWide_bool_mk hbt _)
  refine ⟨ds, [], pa ++ [], [], pa, [], hW', hres _ _ _, hargs _ hold, hvars _, World.keptBut_mono (fun p hp => ⟨hp, ?_⟩) (hb.frame (· ∈ pa ++ [])), fun h => by cases h⟩
  simpa using hp
def pH (w : World) : av := fun b _ => b < w.heap.size
def qP (P : Program) (T : TypeId) {α : Type} (f : α → List PV) (g : α → Prop) : Prop :=
  ∀ {H : Type} (enc : TypeId × Value → H) (w : World) (sp : Nat → Bool) (held : Bool) (n : Nat) (cs : List Value) (x : DataW H × List MemPlace), DataW.trod enc P w 0 sp held n T cs = some x → ∃ a, bZ (f a) (pH w) w cs ∧ g a
def Pc {T E e : TypeId} {α : Type} {f : α → List PV} (hu : P.underlying T = some (.slice E)) (hc : P.cellsOf E = e) (he : 0 < e) {g : α → Prop} (hf : qP P E f g) (hlen : ∀ a, (f a).length = e) : qP P T (fun xs : List α => [PV.sl .v (xs.map f)]) fun xs => ∀ x ∈ xs, g x := by
  intro H enc w sp held n cs x hx
  subst hc
  rcases Deep.open_slice hu hx with ⟨rfl, _⟩ | ⟨a, len, cap, m, n', D, Pl, rfl, _, hlc, hcm, hm, _, hel⟩
  · exact ⟨[], ⟨_, [], rfl, ⟨⟨none, 0, 0, fun _ _ => undef, rfl, Nat.le_refl _, Nat.zero_le _, by simp, .inl rfl, by simp⟩, True.intro⟩, rfl⟩, by simp⟩
  · have hlm : len ≤ m := by rw [hm]; split <;> omega
    have key : ∀ i, i < len → ∃ (y : α × List Value), w.cells? 0 (a.add (i * P.cellsOf E)) (P.cellsOf E) = some y.2 ∧ bZ (f y.1) (pH w) w y.2 ∧ g y.1 := by
      intro i hi
      obtain ⟨cs', h1, h2⟩ := hel i (by omega)
      obtain ⟨y, hy⟩ := hf enc w sp held n' cs' _ h2
      exact ⟨(y, cs'), h1, hy⟩
    by_cases hl0 : len = 0
    · subst hl0
      exact ⟨[], ⟨_, [], rfl, ⟨⟨some a, cap, 0, fun _ _ => undef, rfl, Nat.zero_le _, hcm, by simp, .inl rfl, by simp⟩, True.intro⟩, rfl⟩, by simp⟩
    · obtain ⟨y0, _, _⟩ := key 0 (by omega)
      have : Inhabited (α × List Value) := ⟨y0⟩
      obtain ⟨F, hF⟩ := Deep.choose_lt key
      obtain ⟨b, off, spt⟩ := a
      have hspt : spt = none := by
        obtain ⟨_, h2, h3⟩ := World.cells?_some (hF 0 (by omega)).1
        have h4 := h3 0 he
        rw [List.getElem?_eq_getElem (by rw [h2]; exact he), Nat.zero_mul] at h4
        cases spt with
        | none => rfl
        | some s => simp [Addr.add, World.cell?] at h4; split at h4 <;> simp at h4
      subst hspt
      have hcell : ∀ i j, i < len → j < P.cellsOf E → w.cell? ⟨b, off + (i * P.cellsOf E + j), none⟩ = some ((F i).2.getD j undef) := by
        intro i j hi hj
        obtain ⟨_, h2, h3⟩ := World.cells?_some (hF i hi).1
        have h4 := h3 j hj
        rw [mq, mq, Nat.add_assoc] at h4
        rw [h4, List.getD_eq_getElem?_getD, List.getElem?_eq_getElem (by rw [h2]; exact hj)]; rfl
      refine ⟨(List.range len).map fun i => (F i).1, ⟨_, [], rfl, ⟨⟨some ⟨b, off, none⟩, cap, P.cellsOf E, fun i j => (F i).2.getD j undef, by simp, by simpa using hlc, hcm, ?_, .inr ⟨b, off, rfl, ?_⟩, ?_⟩, True.intro⟩, rfl⟩, ?_⟩
      · intro cs hcs
        obtain ⟨y, _, rfl⟩ := List.mem_map.1 hcs
        exact hlen y
      · intro i j hi hj
        have hi' : i < len := by simpa using hi
        have h := hcell i j hi' hj
        exact ⟨World.block_lt_of_cell? w _ h, h⟩
      · intro i cs j p hi hj
        have hi' : i < len := by have := (List.getElem?_eq_some_iff.1 hi).1; simpa using this
        simp [hi'] at hi
        subst hi
        obtain ⟨v, hv, hr⟩ := (hF i hi').2.1.at_ hj
        show p.rel _ _ ((F i).2.getD j undef)
        rw [List.getD_eq_getElem?_getD, hv]; exact hr
      · intro y hy
        obtain ⟨i, hi, rfl⟩ := List.mem_map.1 hy
        exact (hF i (List.mem_range.1 hi)).2.2
def Pd {T : TypeId} {ag : Bool} {k : Nat} {α : Type} {f : α → List PV} {g : α → Prop} (hT : cn P T = some (ag, k)) (hs : qP P T f g) {w : World} {r : Reach} {b0 : Nat} {v : Value} {d : DataW H} {ps : List MemPlace} (hval : Value.okWide P w r b0 T v) (h : DataW.Trod enc P w 0 (fun _ => true) true T v d ps) :
    ∃ a, ni ag (f a) (pH w) w v ∧ g a := by
  obtain ⟨n, hn⟩ := h
  obtain ⟨a, ha, hg⟩ := hs enc w _ _ n _ _ hn
  refine ⟨a, ⟨?_, ha⟩, hg⟩
  unfold cn at hT
  cases hu : P.underlying T with
  | none => rw [hu] at hT; cases hT
  | some dd =>
    cases hi : P.info? T with
    | none => rw [hu, hi] at hT; cases hT
    | some i =>
      rw [hu, hi] at hT
      simp only [Option.some.injEq, Prod.mk.injEq] at hT
      obtain ⟨hT, _⟩ := hT
      unfold Value.okWide at hval
      rw [hu] at hval
      cases dd <;> simp only at hT hval <;> subst hT <;> first
        | (obtain ⟨cs, rfl, _⟩ := hval; rfl)
        | (cases v <;> first | rfl | (simp [Cell.okWide, Cell.ok, hu] at hval))
end
end
end Go.Proofs.YtmekkgdboplbjaaGreatDoor.M
namespace Go.Proofs.YtmekkgdboplbjaaGreatDoor.M
open Go Go.RowKit
section
section
variable {P : Program} {n d : Nat} {ty : TypeId} {pos : String} {af : Array Edge} {g : Option (Nat × Bool)} {G : nr}
def gL {f : Nat} {args : Array Operand} {tys : Array TypeId} {r : RV} (qs as_ : List (Bool × List PV)) (hf : aE P f = true) (hok : kk args.toList qs := by repeat' (first | exact True.intro | exact aJ rfl | exact CX | apply And.intro))
    (hto : jA qs as_ := by repeat' (first | exact True.intro | exact rfl | exact PV.To.refl _ | exact PV.to_none | apply And.intro)) (hs : iu P G f as_ r) (hd : d < n := by decide) : Loc P n ⟨some d, .call { callee := .value (.func f), args := args, argTypes := tys }, ty, pos, af, g⟩ ⟨(7000, RV.glob G) :: io args.toList qs, [], [(d, some r)], [], none⟩ := OV hd hf hok hto hs
end
def Pe {P : Program} {G : nr} {W : World} {f : FuncId} {vs : List Value} {qs : List (Bool × List PV)} (hs : iu P G f qs (aF [(false, [PV.val (.bool true)])])) (hG : G.rel (pH W) W) (hr : ez qs (pH W) W vs) : Calls P f vs.toArray W fun e w' => e = .returned (.bool true) ∧ Below W.heap.size W w' :=
  (hs W vs (pH W) (fun _ _ h => h) hG hr).mono fun e w' ⟨v, Fz', F, he, hb, _, _, hv, _⟩ => ⟨by rw [he, (cc.sc (hv fun _ => 0)).1], hb⟩
end
section
section
variable {h0 : Nat → Prop} {n : Nat} {w0 w : World} {Fz0 Fz : av} {σ : St} {a : Act} {φ : Nat → Nat} {Fp : Nat → List Nat} {P : Program} {c : Code} {Q : Exit → St → Prop}
end
end
end Go.Proofs.YtmekkgdboplbjaaGreatDoor.M
namespace Go.Proofs.YtmekkgdboplbjaaGreatDoor.M
open Go
section
inductive eI (s : Nat → Option RV) : List Nat → List (Nat × RV) → Prop
  | nil : eI s [] []
  | cons {k : Nat} {v : RV} {ks : List Nat} {l : List (Nat × RV)} (h : s k = some v) (t : eI s ks l) : eI s (k :: ks) ((k, v) :: l)
def eI.rd {s : Nat → Option RV} {ks : List Nat} {l : List (Nat × RV)} (h : eI s ks l) : aS l s := by
  induction h with
  | nil => exact True.intro
  | cons h _ ih => exact And.intro h ih
inductive hR (b : Nat → Option (Nat × List PV)) : List Nat → List (Nat × (Nat × List PV)) → Prop
  | nil : hR b [] []
  | cons {k : Nat} {v : Nat × List PV} {ks : List Nat} {l : List (Nat × (Nat × List PV))} (h : b k = some v) (t : hR b ks l) : hR b (k :: ks) ((k, v) :: l)
def hR.rd {b : Nat → Option (Nat × List PV)} {ks : List Nat} {l : List (Nat × (Nat × List PV))} (h : hR b ks l) : aS l b := by
  induction h with
  | nil => exact True.intro
  | cons h _ ih => exact And.intro h ih
def qq : (∀ {p : Prop} [Decidable p], (decide p = true) = p) ∧ (∀ {p : Prop} [Decidable p], decide p = false ↔ ¬ p) ∧ (∀ {α : Type} [BEq α] [LawfulBEq α] {a b : α}, (a != b) = true ↔ a ≠ b) ∧ (∀ {α : Type} [BEq α] [LawfulBEq α] {a b : α}, (a == b) = true ↔ a = b) ∧ (∀ {b : Bool}, ((!b) = true) = (b = false)) ∧ (∀ {b : Bool}, ((!b) = false) = (b = true)) ∧ (∀ {α : Type} {a b : α}, (a ≠ b) = ¬ a = b) ∧ (∀ {α : Type} [BEq α] [LawfulBEq α] {a b : α}, (a != b) = false ↔ a = b) ∧ (∀ {α : Type} [BEq α] [LawfulBEq α] {a b : α}, (a == b) = false ↔ a ≠ b) :=
  ⟨q1, q2, q3, q4, q5, q6, q7, q8, q9⟩
def DT {L : Nat → Prop} {a b : List PV} (h : ar L a) (k : ar L b) : ar L (List.append a b) := ar.app h k
def lc {G : Prop} (h : G := by repeat' (first | with_reducible (first | exact mr.nil | exact ar.nil | exact ar.vals | exact PV.lcl_val | exact PV.lcl_any | exact RV.lcl_hdr | exact RV.lcl_ptr | exact RV.lcl_gat | exact RV.lcl_phi | apply mr.cons | apply ar.cons | apply RV.lcl_nm | apply RV.lcl_sv | apply RV.lcl_gh | apply PV.lcl_nv | apply PV.lcl_own | apply ar.flat | apply ar.app | apply DT | refine ar.map fun _ => ?_) | apply ar.cons | apply mr.cons | exact ar.nil | refine ar.map fun _ => ?_)) : G := h
def aI {a b : Prop} (x : a) (y : b) : a ∧ b := ⟨x, y⟩
def tI : True := True.intro
def nl {a b : Nat} (h : Nat.ble a b = true) : a ≤ b := Nat.le_of_ble_eq_true h
section
variable {P : Program} {n : Nat} {h0 : Nat → Prop} {w0 : World} {Fz0 : av} {c x y : Code} {σ : St} {Q : Exit → St → Prop}
def sP (ks bs : List Nat) {l : List (Nat × RV)} {b : List (Nat × (Nat × List PV))} (h : SW P n h0 w0 Fz0 c (St.of l b) Q) (hl : eI σ.s ks l := by repeat (first | exact eI.nil | apply eI.cons rfl)) (hb : hR σ.b bs b := by repeat (first | exact hR.nil | apply hR.cons rfl)) : SW P n h0 w0 Fz0 c σ Q := sO l b h hl.rd hb.rd
def sS {id : Nat} {ops : Array Oper} (ks bs : List Nat) {l : List (Nat × RV)} {b : List (Nat × (Nat × List PV))} (h : az P n ops (fun τ => qK (fun τ => SW P n h0 w0 Fz0 y τ Q) Q .normal τ) ops.toList (St.of l b)) (hl : eI σ.s ks l := by repeat (first | exact eI.nil | apply eI.cons rfl)) (hb : hR σ.b bs b := by repeat (first | exact hR.nil | apply hR.cons rfl)) : SW P n h0 w0 Fz0 (.seq (.region id ops false) y) σ Q := ba (sO l b (bi h) hl.rd hb.rd)
def sG {id : Nat} {ops : Array Oper} (ks bs : List Nat) {l : List (Nat × RV)} {b : List (Nat × (Nat × List PV))} (h : az P n ops (fun τ => Q .normal τ) ops.toList (St.of l b)) (hl : eI σ.s ks l := by repeat (first | exact eI.nil | apply eI.cons rfl)) (hb : hR σ.b bs b := by repeat (first | exact hR.nil | apply hR.cons rfl)) : SW P n h0 w0 Fz0 (.region id ops false) σ Q := sO l b (bi h) hl.rd hb.rd
def sL {ι : Type} (ks bs : List Nat) (I : ι → Prop) {l0 : List (Nat × RV)} {b0 : List (Nat × (Nat × List PV))} (l : ι → List (Nat × RV)) (b : ι → List (Nat × (Nat × List PV))) (m : ι → Nat) (i0 : ι) (h0' : I i0) (hl : aS (l i0) σ.s) (hb : aS (b i0) σ.b)
    (round : ∀ i, I i → SW P n h0 w0 Fz0 c (St.of (l0 ++ l i) (b0 ++ b i)) (qK (fun τ => ∃ j, I j ∧ m j < m i ∧ (aS l0 τ.s ∧ aS b0 τ.b) ∧ aS (l j) τ.s ∧ aS (b j) τ.b) Q)) (hl0 : eI σ.s ks l0 := by repeat (first | exact eI.nil | apply eI.cons rfl)) (hb0 : hR σ.b bs b0 := by repeat (first | exact hR.nil | apply hR.cons rfl)) : SW P n h0 w0 Fz0 (.loop c) σ Q := Ok I l b m i0 h0' hl0.rd hb0.rd hl hb round
def sR {id : Nat} {ops : Array Oper} (h : az P n ops (fun τ => qK (fun τ => SW P n h0 w0 Fz0 y τ Q) Q .normal τ) ops.toList σ) : SW P n h0 w0 Fz0 (.seq (.region id ops false) y) σ Q := ba (bi h)
end
section
variable {P : Program} {n : Nat} {ops : Array Oper} {σ : St} {QS : St → Prop} {l : List Oper} {d x : Nat} {ty : TypeId} {pos : String} {af : Array Edge}
def rM {v : Value} (y : az P n ops QS l (σ.app ⟨[(x, RV.sc v)], [], [(d, some (RV.sc v))], [], none⟩)) (h1 : aS [(x, RV.sc v)] σ.s := by repeat (first | exact True.intro | refine And.intro rfl ?_)) (hd : d < n := by decide) : az P n ops QS (⟨some d, .move (.tmp x), ty, pos, af, none⟩ :: l) σ := rA y h1 True.intro (sM hd) rfl rfl
def rS {v : Value} (y : az P n ops QS l (σ.app ⟨[(x, RV.sc v)], [], [(d, some (RV.sc v))], [], none⟩)) (h1 : aS [(x, RV.sc v)] σ.s := by repeat (first | exact True.intro | refine And.intro rfl ?_)) (hd : d < n := by decide) : az P n ops QS (⟨some d, .assign (.tmp x), ty, pos, af, none⟩ :: l) σ := rA y h1 True.intro (sA hd) rfl rfl
def rK {v : Value} (y : az P n ops QS l (σ.app ⟨[], [], [(d, some (RV.sc v))], [], none⟩)) (h : v.oneCell' = true := by exact rfl) (hd : d < n := by decide) : az P n ops QS (⟨some d, .assign (.const v), ty, pos, af, none⟩ :: l) σ := rA y True.intro True.intro (kA h hd) rfl rfl
end
end
end Go.Proofs.YtmekkgdboplbjaaGreatDoor.M
namespace Go.Proofs.YtmekkgdboplbjaaGreatDoor.M
open Go Go.RowKit
section
inductive hU : List PV → List PV → Prop
  | nil : hU [] []
  | val {v : Value} {l m : List PV} (h : hU l m) : hU (PV.val v :: l) (PV.val v :: m)
  | sl {o : Fl} {es : List (List PV)} {l m : List PV} (h : hU l m) : hU (PV.sl o es :: l) (PV.sl o es :: m)
def hU.eq {l m : List PV} (h : hU l m) : l = m := by
  induction h with
  | nil => rfl
  | val _ ih => rw [ih]
  | sl _ ih => rw [ih]
inductive gx (b : Nat → Option (Nat × List PV)) : List Nat → List (Nat × (Nat × List PV)) → Prop
  | nil : gx b [] []
  | cons {k T : Nat} {cs ds : List PV} {ks : List Nat} {l : List (Nat × (Nat × List PV))} (h : b k = some (T, cs)) (e : hU cs ds) (t : gx b ks l) : gx b (k :: ks) ((k, (T, ds)) :: l)
  | any {k T : Nat} {cs : List PV} {ks : List Nat} {l : List (Nat × (Nat × List PV))} (h : b k = some (T, cs)) (t : gx b ks l) : gx b (k :: ks) ((k, (T, cs)) :: l)
def gx.rd {b : Nat → Option (Nat × List PV)} {ks : List Nat} {l : List (Nat × (Nat × List PV))} (h : gx b ks l) : aS l b := by
  induction h with
  | nil => exact True.intro
  | cons h e _ ih => exact And.intro (e.eq ▸ h) ih
  | any h _ ih => exact And.intro h ih
section
variable {P : Program} {n : Nat} {h0 : Nat → Prop} {w0 : World} {Fz0 : av} {c x y : Code} {σ : St} {Q : Exit → St → Prop}
def sQ (ks bs : List Nat) {l : List (Nat × RV)} {b : List (Nat × (Nat × List PV))} (h : SW P n h0 w0 Fz0 c (St.of l b) Q) (hl : eI σ.s ks l := by repeat (first | exact eI.nil | apply eI.cons rfl)) (hb : gx σ.b bs b := by repeat (first | exact gx.nil | refine gx.cons rfl (by repeat (first | exact hU.nil | apply hU.val | apply hU.sl)) ?_ | apply gx.any rfl)) : SW P n h0 w0 Fz0 c σ Q := sO l b h hl.rd hb.rd
def sT {id : Nat} {ops : Array Oper} (ks bs : List Nat) {l : List (Nat × RV)} {b : List (Nat × (Nat × List PV))} (h : az P n ops (fun τ => qK (fun τ => SW P n h0 w0 Fz0 y τ Q) Q .normal τ) ops.toList (St.of l b)) (hl : eI σ.s ks l := by repeat (first | exact eI.nil | apply eI.cons rfl)) (hb : gx σ.b bs b := by repeat (first | exact gx.nil | refine gx.cons rfl (by repeat (first | exact hU.nil | apply hU.val | apply hU.sl)) ?_ | apply gx.any rfl)) : SW P n h0 w0 Fz0 (.seq (.region id ops false) y) σ Q := ba (sO l b (bi h) hl.rd hb.rd)
def sH {id : Nat} {ops : Array Oper} (ks bs : List Nat) {l : List (Nat × RV)} {b : List (Nat × (Nat × List PV))} (h : az P n ops (fun τ => Q .normal τ) ops.toList (St.of l b)) (hl : eI σ.s ks l := by repeat (first | exact eI.nil | apply eI.cons rfl)) (hb : gx σ.b bs b := by repeat (first | exact gx.nil | refine gx.cons rfl (by repeat (first | exact hU.nil | apply hU.val | apply hU.sl)) ?_ | apply gx.any rfl)) : SW P n h0 w0 Fz0 (.region id ops false) σ Q := sO l b (bi h) hl.rd hb.rd
def nx {ι : Type} {I : ι → Prop} {m : ι → Nat} {M : Nat} {C D : Prop} {E F : ι → Prop} (j : ι) (a : I j) (b : m j < M := by first | omega | (dsimp only; omega)) (c : C := by repeat (first | exact True.intro | refine And.intro rfl ?_)) (d : D := by repeat (first | exact True.intro | refine And.intro rfl ?_)) (e : E j := by repeat (first | exact True.intro | refine And.intro rfl ?_)) (f : F j := by repeat (first | exact True.intro | refine And.intro rfl ?_)) : ∃ j, I j ∧ m j < M ∧ (C ∧ D) ∧ E j ∧ F j := ⟨j, a, b, ⟨c, d⟩, e, f⟩
def sF {f : FuncId} {fn : Func} {c : Code} {args rs : List (Bool × List PV)} (hf : P.funcs[f]? = some fn) (h : ∀ (h0 : Nat → Prop) (w0 : World) (Fz0 : av), SW P fn.ntmps h0 w0 Fz0 c (St.of (fZ 0 args) []) (sr P fn.results.toList rs)) (hb : fn.body = some c := by exact rfl) (hn : args.length ≤ fn.ntmps := by exact Nat.le_of_ble_eq_true rfl)
    (hbor : uN args := by repeat (first | with_reducible exact bH | with_reducible refine bV (by repeat (first | with_reducible exact ab.nil | with_reducible refine ab.cons (PV.bor_val _) ?_ | with_reducible refine ab.cons (PV.bor_sl _) ?_ | with_reducible refine ab.cons (PV.bor_lo _ _) ?_)) ?_)) : aN P f args (aF rs) := Om hf hb hn hbor h
def sn (s j : Nat) {ag : Bool} {cs : List PV} {o : Fl} {es : List (List PV)} {m : Nat} (h : m ≤ 9223372036854775807 → SW P n h0 w0 Fz0 c σ Q) (hs : σ.s s = some (RV.sv ag cs) := by exact rfl) (hj : cs[j]? = some (PV.sl o es) := by exact rfl) (hm : es.length = m := by first | exact am _ | exact rfl) : SW P n h0 w0 Fz0 c σ Q := Oq hs hj fun k => h (hm ▸ k)
def sj (s : Nat) {o : Fl} {es : List (List PV)} {m : Nat} (h : m ≤ 9223372036854775807 → SW P n h0 w0 Fz0 c σ Q) (hs : σ.s s = some (RV.slc o es) := by exact rfl) (hm : es.length = m := by first | exact am _ | exact rfl) : SW P n h0 w0 Fz0 c σ Q := Ol hs fun k => h (hm ▸ k)
def sc {t : Nat} {b : Bool} {A B : Prop} (h1 : A → SW P n h0 w0 Fz0 x σ Q) (h2 : B → SW P n h0 w0 Fz0 y σ Q) (ht : σ.s t = some (RV.bool b) := by exact rfl) (u1 : b = true → A := by first | (intro h; simp only [qq] at h; exact h) | exact id) (u2 : b = false → B := by first | (intro h; simp only [qq] at h; exact h) | exact id) : SW P n h0 w0 Fz0 (.cond (.tmp t) x y) σ Q := yf ht (fun k => h1 (u1 k)) (fun k => h2 (u2 k))
def cO {t : Nat} (h1 : SW P n h0 w0 Fz0 x σ Q) (ht : σ.s t = some (RV.bool true) := by exact rfl) : SW P n h0 w0 Fz0 (.cond (.tmp t) x y) σ Q := yf ht (fun _ => h1) (fun k => nomatch k)
def eJ {t : Nat} (h1 : SW P n h0 w0 Fz0 y σ Q) (ht : σ.s t = some (RV.bool false) := by exact rfl) : SW P n h0 w0 Fz0 (.cond (.tmp t) x y) σ Q := yf ht (fun k => nomatch k) (fun _ => h1)
end
section
variable {P : Program} {n : Nat} {ops : Array Oper} {σ σ0 : St} {QS : St → Prop} {l : List Oper} {o : Oper} {acc : List (Nat × ax)} {C : Nat → ax → Prop}
def cx (s : Nat) {b : Bool} {A B : Prop} (h1 : b = true → A → az P n ops QS l σ) (h2 : b = false → B → az P n ops QS l σ) (ht : σ.s s = some (RV.bool b) := by exact rfl) (u1 : b = true → A := by first | (intro h; simp only [qq] at h; exact h) | exact id) (u2 : b = false → B := by first | (intro h; simp only [qq] at h; exact h) | exact id) : az P n ops QS l σ := az.cases ht (fun k => h1 k (u1 k)) (fun k => h2 k (u2 k))
def dx (s : Nat) {b : Bool} {A B : Prop} (h1 : b = true → A → bv P n ops σ0 C QS l acc σ) (h2 : b = false → B → bv P n ops σ0 C QS l acc σ) (ht : σ.s s = some (RV.bool b) := by exact rfl) (u1 : b = true → A := by first | (intro h; simp only [qq] at h; exact h) | exact id) (u2 : b = false → B := by first | (intro h; simp only [qq] at h; exact h) | exact id) : bv P n ops σ0 C QS l acc σ := bv.cases ht (fun k => h1 k (u1 k)) (fun k => h2 k (u2 k))
inductive Hd (H : Prop) : Prop
  | mk (h : H) : Hd H
def Hd.g {H : Prop} : Hd H → H := fun x => by cases x with | mk h => exact h
abbrev ah (G H : Prop) := Hd H → G
def ai {G H : Prop} (w : ah G H) (h : H) : G := w ⟨h⟩
def zt {c : Bool} {G H : Prop} (g : c = true) (h : H) (w : c = true → Hd H → G := by intro g_ h_; (repeat (first | refine az.s0t g_ ?_ | refine az.su ?_)); exact h_.g) : G := w g ⟨h⟩
def zf {c : Bool} {G H : Prop} (g : c = false) (h : H) (w : c = false → Hd H → G := by intro g_ h_; (repeat (first | refine az.s0f g_ ?_ | refine az.su ?_)); exact h_.g) : G := w g ⟨h⟩
def rX {L : ax} (y : az P n ops QS l (σ.app L)) (h1 : aS L.rs σ.s := by repeat (first | exact True.intro | refine And.intro rfl ?_)) (h2 : aS L.rb σ.b := by repeat (first | exact True.intro | refine And.intro rfl ?_)) (x : Loc P n o L) (hg : o.guard = none := by exact rfl) (ha : ∀ d, L.al = some d → cJ d σ := by refine pB ?_; repeat (first | exact cJ.of_ rfl | refine cJ.app ?_ rfl)) : az P n ops QS (o :: l) σ := az.step h1 h2 (bK.of hg x) ha y
def dX {L : ax} (m : Nat) (y : bv P n ops σ0 C QS l (acc ++ [(m, L)]) (σ.app L)) (h1 : aS L.rs σ.s := by repeat (first | exact True.intro | refine And.intro rfl ?_)) (h2 : aS L.rb σ.b := by repeat (first | exact True.intro | refine And.intro rfl ?_)) (x : Loc P n o L) (hg : o.guard = none := by exact rfl) (ha : ∀ d, L.al = some d → cJ d σ0 := by exact eo) (h4 : mp m o L acc = true := by kernel_rfl) (hC : C acc.length L := by show (List.all _ _) = true; kernel_rfl) : bv P n ops σ0 C QS (o :: l) acc σ := bv.stepC m h1 h2 (bK.of hg x) ha h4 hC y
end
def rb {b c : Bool} (h : b = c) : some (RV.bool b) = some (RV.bool c) ∧ True := ⟨gZ h, True.intro⟩
def Pf {L : Nat → Prop} : ∀ cs, cs ∈ ([] : List (List PV)) → ar L cs := fun _ h => nomatch h
def Pg {L : Nat → Prop} : ∀ cs, cs ∈ ([] : List (List PV)) → ip L cs := fun _ h => nomatch h
def lq {G : Prop} (h : G := by repeat' (first | with_reducible (first | exact ar.nil | exact ar.vals | exact ip.nil | exact PV.lcl_val | exact PV.lclr_val | exact PV.lcl_any | exact RV.lcl_hdr | exact RV.lcl_ptr | exact RV.lcl_gat | exact RV.lcl_phi | exact ab.nil | exact PV.bor_val _ | exact PV.bor_sl _ | exact PV.bor_lo _ _ | exact PV.bor_any | exact PV.bor_clo _ _ | exact PV.bor_ep _ | apply PV.bor_nv | exact bH | exact aj.nil | exact PV.tob_refl | exact fw.nil | exact OTo.refl | exact OTo.lo | apply ar.cons | apply ip.cons | apply ab.cons | apply bV | apply aj.cons | apply fw.cons | apply RV.lcl_nm | apply RV.lcl_sv | apply RV.lcl_gh | apply PV.lcl_nv | apply PV.lcl_own | apply PV.lcl_lo | apply PV.lclr_lo | apply ar.flat | apply ar.app | apply DT | refine ar.map fun _ => ?_ | refine ip.map fun _ => ?_ | refine PV.tob_map (fun _ => Nat.le_of_ble_eq_true rfl) (fun _ => ?_) | exact True.intro | exact mr.nil | apply mr.cons) | apply ar.cons | apply ip.cons | apply aj.cons | apply ab.cons | apply bV | exact ar.nil | exact ip.nil | exact aj.nil | exact ab.nil | exact bH | exact Pf | exact Pg | apply fw.cons | apply RV.lcl_sv | exact RV.lcl_ptr | exact True.intro | exact Or.inl rfl | (refine Or.inl ?_; simp [jz]; done) | refine Or.inr ?_ | refine And.intro rfl ?_ | refine And.intro ?_ ?_ | exact rfl | refine ar.map fun _ => ?_)) : G := h
end
section
def vd {α : Type} {f g : α → List PV} {fN : α × (Nat → Value) → List PV} {e : Nat} (hN : ∀ x h, fN (x, h) = gK h 0 (g x)) (hg : ∀ x, (g x).length = e) (hq : ∀ x, ao (f x) (g x)) (hb : ∀ x, ab (g x)) {Fz : av} {w : World} : ∀ {xs : List α} {css : List Value} {F : List Nat}, bU e (xs.map f) Fz w css F →
    ∃ zs : List (α × (Nat → Value)), zs.map Prod.fst = xs ∧ css = bS e zs ∧ bU e (zs.map fN) Fz w css [] ∧ aG (bT f zs) Fz w (bS e zs) F
  | [], css, F, h => by
    obtain ⟨rfl, rfl⟩ := h
    exact ⟨[], rfl, rfl, ⟨rfl, rfl⟩, ⟨rfl, rfl⟩⟩
  | x :: xs, css, F, h => by
    obtain ⟨c, d, F1, F2, rfl, rfl, hl, h1, h2⟩ := h
    obtain ⟨zs, e1, e2, e3, e4⟩ := vd hN hg hq hb h2
    obtain ⟨k, hk⟩ := DK hl
    refine ⟨(x, k) :: zs, by rw [List.map_cons, e1], ?_, ?_, ?_⟩
    · rw [hk, e2]; rfl
    · refine ⟨c, d, [], [], rfl, rfl, hl, ?_, e3⟩
      rw [hN, yz, hg, ← List.range_eq_range', ← hk]
      exact uY (hb x) ((hq x).rel h1.rel)
    · have : aG (f x ++ bT f zs) Fz w (c ++ bS e zs) (F1 ++ F2) := h1.append e4
      rw [hk] at this; exact this
section
variable {P : Program} {n : Nat} {h0 : Nat → Prop} {w0 : World} {Fz0 : av} {σ : St} {Q : Exit → St → Prop} {c : Code}
def Ph {s t e G : Nat} {α : Type} {f g : α → List PV} {fN : α × (Nat → Value) → List PV} {xs : List α} (hs : σ.s s = some (RV.sv false [PV.sl (.own t e) (xs.map f)])) (hsG : Nat.beq s G = false) (hG : σ.s G = none) (hN : ∀ x h, fN (x, h) = gK h 0 (g x)) (hg : ∀ x, (g x).length = e) (hq : ∀ x, ao (f x) (g x)) (hb : ∀ x, ab (g x))
    (h : ∀ zs : List (α × (Nat → Value)), zs.map Prod.fst = xs → SW P n h0 w0 Fz0 c ((σ.set s (some (RV.sv false [PV.sl .v (zs.map fN)]))).set G (some (RV.gh (bS e zs) (bT f zs)))) Q) : SW P n h0 w0 Fz0 c σ Q := fun a w hc => by
  rw [beq_eq, decide_eq_false_iff_not] at hsG
  obtain ⟨φ, Fz, Fp, hc⟩ := hc
  have hv : cc false [PV.sl (.own t e) (xs.map f)] Fz w (a.tmps.getD s undef) (Fp (2 * s + 1)) := hc.slot s _ hs
  obtain ⟨hag, v, vs', F1, F2, hv1, hF, ho, hnil, rfl⟩ := hv
  subst hnil
  have ho : cP t e (xs.map f) Fz w v F1 := ho
  obtain ⟨css, F', hrow, hll, hfz, rfl, hone⟩ := ho
  obtain ⟨zs, e1, e2, e3, e4⟩ := vd hN hg hq hb hll
  have hlen : (zs.map fN).length = (xs.map f).length := by rw [am, am, ← e1, am]
  have hsl : cP t e (zs.map fN) Fz w v (v.ownBlock.toList ++ []) := ⟨css, [], by rw [hlen]; exact hrow, e3, fun g hg o => by rw [hlen]; exact hfz g hg o, rfl, hone⟩
  have c1 := hc.pull s
  have e0 : mv Fp (2 * s + 1) 0 = Fp (2 * s + 1) ++ Fp 0 := by simp [mv]
  have es : mv Fp (2 * s + 1) (2 * s + 1) = [] := by simp [mv]
  have hnd := c1.nod 0
  rw [e0, hF, eH] at hnd
  rw [hF, eH] at e0
  have c2 := c1.reslot (s := s) (rv := RV.sv false [PV.sl .v (zs.map fN)]) (by
    rw [es]
    exact ⟨hag, v, [], [], [], hv1, rfl, ⟨hsl.rel, rfl⟩, rfl, rfl⟩)
  have c3 := c2.pushG (G := G) (us := bS e zs) (cs := bT f zs) (F := F') (X := Fp 0) e4 (fun b hb => by
      rw [e0]
      rcases List.mem_append.1 hb with hb | hb
      · simp [hb]
      · simp [hb])
    (by
      rw [bl] at hnd
      exact (List.nodup_append.1 hnd).2.1)
  exact h zs e1 a w (aZ.eqv ⟨_, _, _, c3⟩ (fun i => by
    simp only [St.set_s]
    split
    · rfl
    · split <;> rfl) (fun d => rfl))
def Pi {G H e : Nat} {α : Type} {f : α → List PV} {ys zs : List (α × (Nat → Value))} (hG : σ.s G = some (RV.gh (bS e ys) (bT f ys))) (hH : σ.s H = some (RV.gh (bS e zs) (bT f zs))) (hGH : Nat.beq G H = false) (h : SW P n h0 w0 Fz0 c ((σ.set H none).set G (some (RV.gh (bS e (ys ++ zs)) (bT f (ys ++ zs))))) Q) : SW P n h0 w0 Fz0 c σ Q := fun a w hc => by
  rw [beq_eq, decide_eq_false_iff_not] at hGH
  obtain ⟨φ, Fz, Fp, hc⟩ := hc
  have h1 : aG (bT f ys) Fz w (bS e ys) (Fp (2 * G + 1)) := hc.slot G _ hG
  have h2 : aG (bT f zs) Fz w (bS e zs) (Fp (2 * H + 1)) := hc.slot H _ hH
  have ho : aG (bT f (ys ++ zs)) Fz w (bS e (ys ++ zs)) (Fp (2 * G + 1) ++ Fp (2 * H + 1)) := by
    have e1 : bT f (ys ++ zs) = bT f ys ++ bT f zs := by simp [bT]
    have e2 : bS e (ys ++ zs) = bS e ys ++ bS e zs := by simp [bS]
    rw [e1, e2]; exact h1.append h2
  have c1 := hc.pull H
  have c2 := c1.pull G
  have e1 : mv Fp (2 * H + 1) (2 * G + 1) = Fp (2 * G + 1) := by simp only [mv]; rw [if_neg (by omega), if_neg (by omega)]
  have e2 : mv (mv Fp (2 * H + 1)) (2 * G + 1) 0 = Fp (2 * G + 1) ++ (Fp (2 * H + 1) ++ Fp 0) := by
    rw [← e1]; simp [mv]
  have hnd := c2.nod 0
  rw [e2] at hnd
  have c3 := c2.pushG (G := G) (F := Fp (2 * G + 1) ++ Fp (2 * H + 1)) (X := Fp 0) ho (fun b hb => by rw [e2, ← bl]; exact hb) (by rw [bl]; exact hnd)
  exact h a w (aZ.eqv ⟨_, _, _, c3⟩ (fun i => by
    simp only [St.set_s]
    split
    · rfl
    · rfl) (fun d => rfl))
def Pj {d t G e : Nat} {α : Type} {f : α → List PV} {z : α × (Nat → Value)} {zs : List (α × (Nat → Value))} {ps : List PV} (hd : σ.b d = some (t, ps)) (hn : Nm ps ((List.range e).map z.2)) (hf : ∀ x, (f x).length = e) (hG : σ.s G = some (RV.gh (bS e (z :: zs)) (bT f (z :: zs))))
    (h : SW P n h0 w0 Fz0 c ((σ.setB d (some (t, f z.1))).set G (some (RV.gh (bS e zs) (bT f zs)))) Q) : SW P n h0 w0 Fz0 c σ Q := fun a w hc => by
  obtain ⟨φ, Fz, Fp, hc⟩ := hc
  have hg0 : aG (f z.1 ++ bT f zs) Fz w ((List.range e).map z.2 ++ bS e zs) (Fp (2 * G + 1)) := hc.slot G _ hG
  obtain ⟨v1, v2, F1, F2, k1, k2, k3, k4⟩ := hg0.split
  obtain ⟨rfl, rfl⟩ := List.append_inj k1 (by rw [k3.len, hf]; simp)
  have c1 := hc.pull G
  have e0 : mv Fp (2 * G + 1) 0 = Fp (2 * G + 1) ++ Fp 0 := by simp [mv]
  obtain ⟨cur, h1, h2⟩ := c1.box d (t, ps) hd
  obtain ⟨g1, g2, g3⟩ := c1.bxb d (t, ps) hd
  have hu : cur.toList = (List.range e).map z.2 := hn h2.rel
  have c2 := c1.pullB (d := d) (cs := (t, ps)) hd
  generalize hFp1 : mv Fp (2 * G + 1) = Fp1 at c1 c2 e0 h2 g3
  have hnd := c2.nod 0
  simp only [if_true] at hnd
  have em : mv Fp1 (2 * d + 2) 0 = Fp1 (2 * d + 2) ++ Fp1 0 := by simp [mv]
  rw [em, e0, k2] at hnd
  rw [k2] at e0
  have c3 := c2.pushB (d := d) (g := φ d) (t := t) (cs := f z.1) (F := F1) (X := F2 ++ Fp 0) (by rw [St.setB_b, if_pos rfl]) h1 (by rw [hu]; exact k3) g2
    (fun x hx => by
      simp only [if_true]
      rw [em, e0]
      rcases List.mem_append.1 hx with hx | hx
      · simp [hx]
      · rcases List.mem_cons.1 hx with rfl | hx
        · simp
        · rcases List.mem_append.1 hx with hx | hx <;> simp [hx])
    (by
      simp only [fJ, dS] at hnd
      obtain ⟨m0, m1⟩ := hnd
      have m2 := (List.nodup_append.1 m1).2.1
      rw [bl, ci] at m2
      rw [ci]
      refine ⟨m2.1, List.nodup_cons.2 ⟨fun hh => ?_, m2.2.1⟩, fun x hx y hy e => ?_⟩
      · rcases List.mem_append.1 hh with hh | hh
        · exact m0 (.inr (.inl (.inr hh)))
        · exact m0 (.inr (.inr hh))
      · rcases List.mem_cons.1 hy with rfl | hy
        · exact m0 (.inr (.inl (.inl (e ▸ hx))))
        · exact m2.2.2 x hx y hy e)
    (.inl rfl)
  have hn3 := c3.nod 0
  have c4 := c3.pushG (G := G) (F := F2) (X := Fp 0) k4 (fun b hb => by simp only [cu]; rw [if_neg (by omega)]; simpa using hb) (by
    simp only [cu] at hn3
    rw [if_neg (by omega)] at hn3
    simpa using hn3)
  exact h a w (aZ.eqv ⟨_, _, _, c4⟩ (fun i => by
    simp only [St.set_s, St.setB_s]
    split <;> rfl) (fun e => by
    simp only [St.setB_b, St.set_b]
    split <;> rfl))
def yF {d T t e G : Nat} {A B : List PV} {α : Type} {f g : α → List PV} {fN : α × (Nat → Value) → List PV} {xs : List α} (hd : σ.b d = some (T, A ++ (PV.sl (.own t e) (xs.map f) :: B))) (hG : σ.s G = none) (hN : ∀ x h, fN (x, h) = gK h 0 (g x)) (hg : ∀ x, (g x).length = e) (hq : ∀ x, ao (f x) (g x)) (hb : ∀ x, ab (g x))
    (h : ∀ zs : List (α × (Nat → Value)), zs.map Prod.fst = xs → SW P n h0 w0 Fz0 c ((σ.setB d (some (T, A ++ (PV.sl .v (zs.map fN) :: B)))).set G (some (RV.gh (bS e zs) (bT f zs)))) Q) : SW P n h0 w0 Fz0 c σ Q := fun a w hc => by
  obtain ⟨φ, Fz, Fp, hc⟩ := hc
  obtain ⟨cur, h1, h2⟩ := hc.box d _ hd
  obtain ⟨g1, g2, g3⟩ := hc.bxb d _ hd
  obtain ⟨v1, v2, F1, F2, k1, k2, k3, v, vs', E1, E2, rfl, rfl, ho, kB⟩ := h2.split
  have ho : cP t e (xs.map f) Fz w v E1 := ho
  obtain ⟨css, F', hrow, hll, hfz, rfl, hone⟩ := ho
  obtain ⟨zs, e1, e2, e3, e4⟩ := vd hN hg hq hb hll
  have hlen : (zs.map fN).length = (xs.map f).length := by rw [am, am, ← e1, am]
  have hsl : cP t e (zs.map fN) Fz w v (v.ownBlock.toList ++ []) := ⟨css, [], by rw [hlen]; exact hrow, e3, fun g hg o => by rw [hlen]; exact hfz g hg o, rfl, hone⟩
  have hnew : aG (A ++ (PV.sl .v (zs.map fN) :: B)) Fz w cur.toList (F1 ++ ([] ++ E2)) := by
    rw [k1]
    exact k3.append ⟨v, vs', [], E2, rfl, rfl, ⟨hsl.rel, rfl⟩, kB⟩
  rw [List.nil_append] at hnew
  have c2 := hc.pullB hd
  have hnd := c2.nod 0
  simp only [if_true] at hnd
  have em : mv Fp (2 * d + 2) 0 = Fp (2 * d + 2) ++ Fp 0 := by simp [mv]
  have k2' : Fp (2 * d + 2) = F1 ++ (v.ownBlock.toList ++ F' ++ E2) := k2
  rw [em, k2'] at hnd
  rw [k2'] at em
  have hperm : (φ d :: (F1 ++ (v.ownBlock.toList ++ F' ++ E2) ++ Fp 0)).Perm ((F1 ++ E2) ++ φ d :: (F' ++ (v.ownBlock.toList ++ Fp 0))) := by
    refine (List.Perm.trans ?_ List.perm_middle.symm)
    refine List.Perm.cons _ ?_
    simp only [bl]
    refine gv _ ?_
    show (v.ownBlock.toList ++ (F' ++ (E2 ++ Fp 0))).Perm (E2 ++ (F' ++ (v.ownBlock.toList ++ Fp 0)))
    have p1 : ((v.ownBlock.toList ++ F') ++ (E2 ++ Fp 0)).Perm ((F' ++ v.ownBlock.toList) ++ (E2 ++ Fp 0)) := jy _ kg
    have p2 : ((F' ++ v.ownBlock.toList) ++ (E2 ++ Fp 0)).Perm (E2 ++ ((F' ++ v.ownBlock.toList) ++ Fp 0)) := by
      rw [← bl, ← bl]
      exact jy _ kg
    have p3 := p1.trans p2
    simpa using p3
  have c3 := c2.pushB (d := d) (g := φ d) (t := T) (cs := A ++ (PV.sl .v (zs.map fN) :: B)) (F := F1 ++ E2) (X := F' ++ (v.ownBlock.toList ++ Fp 0)) (by rw [St.setB_b, if_pos rfl]) h1 hnew g2
    (fun x hx => by
      simp only [if_true]
      rw [em]
      exact hperm.mem_iff.2 hx) (hperm.nodup_iff.1 hnd) (.inl rfl)
  have hn3 := c3.nod 0
  have c4 := c3.pushG (G := G) (F := F') (X := v.ownBlock.toList ++ Fp 0) e4 (fun b hb => by simp only [cu]; rw [if_neg (by omega)]; simpa using hb) (by
    simp only [cu] at hn3
    rw [if_neg (by omega)] at hn3
    simpa using hn3)
  exact h zs e1 a w (aZ.eqv ⟨_, _, _, c4⟩ (fun i => by
    simp only [St.set_s, St.setB_s]) (fun e => by
    simp only [St.setB_b, St.set_b]
    split <;> rfl))
end
end
section
def Pk {α : Type} {f g : α → List PV} {fN : α × (Nat → Value) → List PV} {t e : Nat} (hN : ∀ x h, fN (x, h) = gK h 0 (g x)) (hg : ∀ x, (g x).length = e) (hq : ∀ x, ao (f x) (g x)) (hb : ∀ x, ab (g x)) {Fz : av} {w : World} {xs : List α} {v : Value} {F : List Nat} (h : cP t e (xs.map f) Fz w v F) :
    ∃ zs : List (α × (Nat → Value)), ∃ F1 F2, zs.map Prod.fst = xs ∧ cP t e (zs.map fN) Fz w v F1 ∧ aG (bT f zs) Fz w (bS e zs) F2 ∧ F = F1 ++ F2 := by
  obtain ⟨css, F', hrow, hll, hfz, rfl, hone⟩ := h
  obtain ⟨zs, e1, e2, e3, e4⟩ := vd hN hg hq hb hll
  have hlen : (zs.map fN).length = (xs.map f).length := by rw [am, am, ← e1, am]
  exact ⟨zs, v.ownBlock.toList ++ [], F', e1, ⟨css, [], by rw [hlen]; exact hrow, e3, fun g hg o => by rw [hlen]; exact hfz g hg o, rfl, hone⟩, e4, by simp⟩
def DU {α : Type} {f : α → List PV} {ys zs : List (α × (Nat → Value))} : bT f (ys ++ zs) = bT f ys ++ bT f zs := by simp [bT]
def DV {α : Type} {e : Nat} {ys zs : List (α × (Nat → Value))} : bS e (ys ++ zs) = bS e ys ++ bS e zs := by simp [bS]
def ve {α : Type} {a b c d : List α} : (a ++ b ++ (c ++ d)).Perm (a ++ c ++ (b ++ d)) := by
  simp only [bl]
  refine gv _ ?_
  rw [← bl, ← bl]
  exact jy _ kg
def DW {α : Type} {f g : α → List PV} {fN : α × (Nat → Value) → List PV} {e : Nat} (hN : ∀ x h, fN (x, h) = gK h 0 (g x)) (hg : ∀ x, (g x).length = e) (hf : ∀ x, (f x).length = e) {Fz : av} {w : World} : ∀ {zs : List (α × (Nat → Value))} {css : List Value} {F1 F2 : List Nat}, bU e (zs.map fN) Fz w css F1 → aG (bT f zs) Fz w (bS e zs) F2 → bU e ((zs.map Prod.fst).map f) Fz w css F2
  | [], css, F1, F2, h, k => by
    obtain ⟨rfl, rfl⟩ := h
    obtain ⟨_, rfl⟩ := k
    exact ⟨rfl, rfl⟩
  | z :: zs, css, F1, F2, h, k => by
    obtain ⟨c, d, Fa, Fb, rfl, rfl, hl, h1, h2⟩ := h
    have k : aG (f z.1 ++ bT f zs) Fz w ((List.range e).map z.2 ++ bS e zs) F2 := k
    obtain ⟨v1, v2, G1, G2, k1, k2, k3, k4⟩ := k.split
    obtain ⟨rfl, rfl⟩ := List.append_inj k1 (by rw [k3.len, hf]; simp)
    have hc : c = (List.range e).map z.2 := by
      have hr := h1.rel
      rw [show fN z = gK z.2 0 (g z.1) from hN z.1 z.2] at hr
      have hk : ∀ (ps : List PV) (i : Nat) (vs : List Value), bZ (gK z.2 i ps) Fz w vs → vs = (List.range' i ps.length).map z.2 := by
        intro ps
        induction ps with
        | nil => intro i vs h; exact h
        | cons p ps ih =>
          intro i vs h
          obtain ⟨v, vs', rfl, h1, h2⟩ := h
          rw [ih _ _ h2, h1.1]; rfl
      rw [hk _ _ _ hr, hg, ← List.range_eq_range']
    subst hc
    exact ⟨_, d, G1, G2, rfl, k2, hl, k3, DW hN hg hf h2 k4⟩
def DX {α : Type} {f : α → List PV} {e : Nat} (hf : ∀ x, (f x).length = e) {Fz : av} {w : World} {z : α × (Nat → Value)} {l : List (α × (Nat → Value))} {F : List Nat} (h : aG (bT f (z :: l)) Fz w (bS e (z :: l)) F) : ∃ F1 F2, F = F1 ++ F2 ∧ aG (f z.1) Fz w ((List.range e).map z.2) F1 ∧ aG (bT f l) Fz w (bS e l) F2 := by
  have h : aG (f z.1 ++ bT f l) Fz w ((List.range e).map z.2 ++ bS e l) F := h
  obtain ⟨v1, v2, F1, F2, e1, rfl, h1, h2⟩ := h.split
  obtain ⟨rfl, rfl⟩ := List.append_inj e1 (by rw [h1.len, hf]; simp)
  exact ⟨F1, F2, rfl, h1, h2⟩
def DY {α : Type} {f : α → List PV} {e : Nat} (hf : ∀ x, (f x).length = e) {Fz : av} {w : World} {ys zs : List (α × (Nat → Value))} (hs : ys.Sublist zs) : ∀ {F : List Nat}, aG (bT f zs) Fz w (bS e zs) F → ∃ F' R, F.Perm (F' ++ R) ∧ aG (bT f ys) Fz w (bS e ys) F' := by
  induction hs with
  | slnil => exact fun h => ⟨_, [], by rw [eH], h⟩
  | cons z hs ih =>
    intro F h
    obtain ⟨F1, F2, rfl, h1, h2⟩ := DX hf h
    obtain ⟨F', R, hp, ho⟩ := ih h2
    exact ⟨F', F1 ++ R, (gv _ hp).trans (by rw [← bl, ← bl]; exact jy _ kg), ho⟩
  | cons_cons z hs ih =>
    intro F h
    obtain ⟨F1, F2, rfl, h1, h2⟩ := DX hf h
    obtain ⟨F', R, hp, ho⟩ := ih h2
    refine ⟨F1 ++ F', R, (gv _ hp).trans (by rw [bl]), ?_⟩
    exact h1.append ho
def DZ {α : Type} {f g : α → List PV} {fN : α × (Nat → Value) → List PV} {t e : Nat} (hN : ∀ x h, fN (x, h) = gK h 0 (g x)) (hg : ∀ x, (g x).length = e) (hf : ∀ x, (f x).length = e) {Fz : av} {w : World} {zs : List (α × (Nat → Value))} {v : Value} {F1 F2 : List Nat} (h : cP t e (zs.map fN) Fz w v F1) (k : aG (bT f zs) Fz w (bS e zs) F2) : cP t e ((zs.map Prod.fst).map f) Fz w v (v.ownBlock.toList ++ F2) := by
  obtain ⟨css, F', hrow, hll, hfz, rfl, hone⟩ := h
  have hlen : ((zs.map Prod.fst).map f).length = (zs.map fN).length := by simp
  exact ⟨css, F2, by rw [hlen]; exact hrow, DW hN hg hf hll k, fun g hg o => by rw [hlen]; exact hfz g hg o, rfl, hone⟩
def Ea {t e : Nat} {es : List (List PV)} {Fz : av} {w : World} {v : Value} {F : List Nat} (h : cP t e es Fz w v F) : ∃ F', F = v.ownBlock.toList ++ F' := by
  obtain ⟨css, F', hrow, hll, hfz, rfl, hone⟩ := h
  exact ⟨F', rfl⟩
def vf {α : Type} {f : α → List PV} {x : α} {xs : List α} {jk : List Value} : cN f (x :: xs) jk = f x ++ cN f xs jk := by
  unfold cN; rw [List.map_cons, List.flatten_cons, bl]
def Eb {α : Type} {f g : α → List PV} {fN : α × (Nat → Value) → List PV} {t e : Nat} (hN : ∀ x h, fN (x, h) = gK h 0 (g x)) (hg : ∀ x, (g x).length = e) (hq : ∀ x, ao (f x) (g x)) (hb : ∀ x, ab (g x)) {jk : List Value} {Fz : av} {w : World} : ∀ {xss : List (List α)} {vs : List Value} {F : List Nat}, aG (cN (fun xs => [PV.sl (.own t e) (xs.map f)]) xss jk) Fz w vs F →
    ∃ zss : List (List (α × (Nat → Value))), ∃ F1 F2, zss.map (List.map Prod.fst) = xss ∧ aG (cN (fun zs => [PV.sl (.own t e) (zs.map fN)]) zss jk) Fz w vs F1 ∧ aG (bT f zss.flatten) Fz w (bS e zss.flatten) F2 ∧ F.Perm (F1 ++ F2)
  | [], vs, F, h => ⟨[], F, [], rfl, h, ⟨rfl, rfl⟩, by rw [eH]⟩
  | xs :: xss, vs, F, h => by
    rw [vf] at h
    obtain ⟨v, vs', Fa, Fb, rfl, rfl, ho, h2⟩ := h
    obtain ⟨zs, A1, A2, e1, e2, e3, rfl⟩ := Pk hN hg hq hb (show cP t e (xs.map f) Fz w v Fa from ho)
    obtain ⟨zss, B1, B2, e4, e5, e6, hp⟩ := Eb hN hg hq hb h2
    refine ⟨zs :: zss, A1 ++ B1, A2 ++ B2, by rw [List.map_cons, e1, e4], ?_, ?_, ?_⟩
    · rw [vf]; exact ⟨v, vs', A1, B1, rfl, rfl, e2, e5⟩
    · rw [List.flatten_cons, DU, DV]; exact e3.append e6
    · exact (gv _ hp).trans ve
def Pm {α : Type} {f : α → List PV} {e : Nat} (hf : ∀ x, (f x).length = e) : ∀ l : List (α × (Nat → Value)), (bS e l).length = (bT f l).length := by
  intro l
  induction l with
  | nil => rfl
  | cons z l ih =>
    show ((List.range e).map z.2 ++ bS e l).length = (f z.1 ++ bT f l).length
    simp [hf, ih]
def Ec {α : Type} {f g : α → List PV} {fN : α × (Nat → Value) → List PV} {t e : Nat} (hN : ∀ x h, fN (x, h) = gK h 0 (g x)) (hg : ∀ x, (g x).length = e) (hf : ∀ x, (f x).length = e) {jk : List Value} {Fz : av} {w : World} : ∀ {zss : List (List (α × (Nat → Value)))} {vs : List Value} {F1 F2 : List Nat}, aG (cN (fun zs => [PV.sl (.own t e) (zs.map fN)]) zss jk) Fz w vs F1 → aG (bT f zss.flatten) Fz w (bS e zss.flatten) F2 →
    ∃ F R, aG (cN (fun xs => [PV.sl (.own t e) (xs.map f)]) (zss.map (List.map Prod.fst)) jk) Fz w vs F ∧ (F1 ++ F2).Perm (F ++ R)
  | [], vs, F1, F2, h, k => ⟨F1, F2, h, List.Perm.refl _⟩
  | zs :: zss, vs, F1, F2, h, k => by
    rw [vf] at h
    obtain ⟨v, vs', G1, Fb, rfl, rfl, ho, h2⟩ := h
    rw [List.flatten_cons, DU, DV] at k
    obtain ⟨v1, v2, K1, K2, k1, rfl, k3, k4⟩ := k.split
    obtain ⟨rfl, rfl⟩ := List.append_inj k1 (by rw [k3.len]; exact Pm hf zs)
    have ho : cP t e (zs.map fN) Fz w v G1 := ho
    obtain ⟨G', rfl⟩ := Ea ho
    have hb := DZ hN hg hf ho k3
    obtain ⟨F, R, e1, hp⟩ := Ec hN hg hf h2 k4
    refine ⟨(v.ownBlock.toList ++ K1) ++ F, G' ++ R, ?_, ?_⟩
    · rw [List.map_cons, vf]; exact ⟨v, vs', _, F, rfl, rfl, hb, e1⟩
    refine ve.trans ?_
    refine (gv _ hp).trans ?_
    simp only [bl]
    refine gv _ ?_
    have p1 : (G' ++ (K1 ++ (F ++ R))).Perm ((K1 ++ F) ++ (G' ++ R)) := by
      have := (kg (l₁ := G') (l₂ := K1 ++ F)).append_right R
      simpa only [bl] using this
    simpa only [bl] using p1
section
variable {P : Program} {n : Nat} {h0 : Nat → Prop} {w0 : World} {Fz0 : av} {σ : St} {Q : Exit → St → Prop} {c : Code}
def yG {d T G : Nat} {A B : List PV} {p q : PV} {us : List Value} {gs : List PV} (hd : σ.b d = some (T, A ++ (q :: B))) (hG : σ.s G = some (RV.gh us gs)) (hp : ∀ {Fz : av} {w : World} {v : Value} {F1 F2 : List Nat}, q.own Fz w v F1 → aG gs Fz w us F2 → ∃ F R, p.own Fz w v F ∧ (F1 ++ F2).Perm (F ++ R))
    (h : SW P n h0 w0 Fz0 c ((σ.set G none).setB d (some (T, A ++ (p :: B)))) Q) : SW P n h0 w0 Fz0 c σ Q := fun a w hc => by
  obtain ⟨φ, Fz, Fp, hc⟩ := hc
  have hg0 : aG gs Fz w us (Fp (2 * G + 1)) := hc.slot G _ hG
  have c1 := hc.pull G
  have e0 : mv Fp (2 * G + 1) 0 = Fp (2 * G + 1) ++ Fp 0 := by simp [mv]
  obtain ⟨cur, h1, h2⟩ := c1.box d _ hd
  obtain ⟨g1, g2, g3⟩ := c1.bxb d _ hd
  obtain ⟨v1, v2, F1, F2, k1, k2, k3, v, vs', E1, E2, rfl, rfl, ho, kB⟩ := h2.split
  obtain ⟨F, R, m1, m2⟩ := hp ho hg0
  have hnew : aG (A ++ (p :: B)) Fz w cur.toList (F1 ++ (F ++ E2)) := by
    rw [k1]
    exact k3.append ⟨v, vs', F, E2, rfl, rfl, m1, kB⟩
  have c2 := c1.pullB (d := d) hd
  generalize hFp1 : mv Fp (2 * G + 1) = Fp1 at c1 c2 e0 h2 g3 k2
  have hnd := c2.nod 0
  simp only [if_true] at hnd
  have em : mv Fp1 (2 * d + 2) 0 = Fp1 (2 * d + 2) ++ Fp1 0 := by simp [mv]
  have k2' : Fp1 (2 * d + 2) = F1 ++ (E1 ++ E2) := k2
  rw [em, k2', e0] at hnd
  rw [k2', e0] at em
  have hperm : (φ d :: (F1 ++ (E1 ++ E2) ++ (Fp (2 * G + 1) ++ Fp 0))).Perm ((F1 ++ (F ++ E2)) ++ φ d :: (R ++ Fp 0)) := by
    refine (List.Perm.trans ?_ List.perm_middle.symm)
    refine List.Perm.cons _ ?_
    simp only [bl]
    refine gv _ ?_
    have p1 : (E1 ++ (E2 ++ (Fp (2 * G + 1) ++ Fp 0))).Perm ((E1 ++ Fp (2 * G + 1)) ++ (E2 ++ Fp 0)) := by
      have := ve (a := E1) (b := E2) (c := Fp (2 * G + 1)) (d := Fp 0)
      simpa only [bl] using this
    refine p1.trans ((jy _ m2).trans ?_)
    have := ve (a := F) (b := R) (c := E2) (d := Fp 0)
    simpa only [bl] using this
  have c3 := c2.pushB (d := d) (g := φ d) (t := T) (cs := A ++ (p :: B)) (F := F1 ++ (F ++ E2)) (X := R ++ Fp 0) (by rw [St.setB_b, if_pos rfl]) h1 hnew g2
    (fun x hx => by
      simp only [if_true]
      rw [em]
      exact hperm.mem_iff.2 hx) (hperm.nodup_iff.1 hnd) (.inl rfl)
  exact h a w (aZ.eqv ⟨_, _, _, c3⟩ (fun i => rfl) (fun e => by
    simp only [St.setB_b, St.set_b]
    split <;> rfl))
def Ed {d T G : Nat} {cs : List PV} {ι : Type} {q : ι → List PV} {us : ι → List Value} {gs : ι → List PV} (hd : σ.b d = some (T, cs)) (hG : σ.s G = none) (hp : ∀ {Fz : av} {w : World} {vs : List Value} {F : List Nat}, aG cs Fz w vs F → ∃ i, ∃ F1 F2, aG (q i) Fz w vs F1 ∧ aG (gs i) Fz w (us i) F2 ∧ F.Perm (F1 ++ F2))
    (h : ∀ i, SW P n h0 w0 Fz0 c ((σ.setB d (some (T, q i))).set G (some (RV.gh (us i) (gs i)))) Q) : SW P n h0 w0 Fz0 c σ Q := fun a w hc => by
  obtain ⟨φ, Fz, Fp, hc⟩ := hc
  obtain ⟨cur, h1, h2⟩ := hc.box d _ hd
  obtain ⟨g1, g2, g3⟩ := hc.bxb d _ hd
  obtain ⟨i, P1, P2, m1, m2, m3⟩ := hp h2
  have c2 := hc.pullB hd
  have hnd := c2.nod 0
  simp only [if_true] at hnd
  have em : mv Fp (2 * d + 2) 0 = Fp (2 * d + 2) ++ Fp 0 := by simp [mv]
  rw [em] at hnd
  have hperm : (φ d :: (Fp (2 * d + 2) ++ Fp 0)).Perm (P1 ++ φ d :: (P2 ++ Fp 0)) := by
    refine (List.Perm.trans ?_ List.perm_middle.symm)
    refine List.Perm.cons _ ?_
    rw [← bl]
    exact jy _ m3
  have c3 := c2.pushB (d := d) (g := φ d) (t := T) (cs := q i) (F := P1) (X := P2 ++ Fp 0) (by rw [St.setB_b, if_pos rfl]) h1 m1 g2
    (fun x hx => by
      simp only [if_true]
      rw [em]
      exact hperm.mem_iff.2 hx) (hperm.nodup_iff.1 hnd) (.inl rfl)
  have hn3 := c3.nod 0
  have c4 := c3.pushG (G := G) (F := P2) (X := Fp 0) m2 (fun b hb => by simp only [cu]; rw [if_neg (by omega)]; simpa using hb) (by
    simp only [cu] at hn3
    rw [if_neg (by omega)] at hn3
    simpa using hn3)
  exact h i a w (aZ.eqv ⟨_, _, _, c4⟩ (fun i => by
    simp only [St.set_s, St.setB_s]) (fun e => by
    simp only [St.setB_b, St.set_b]
    split <;> rfl))
def Pn {d T G : Nat} {ps cs : List PV} {us : List Value} {gs : List PV} (hd : σ.b d = some (T, cs)) (hG : σ.s G = some (RV.gh us gs)) (hp : ∀ {Fz : av} {w : World} {vs : List Value} {F1 F2 : List Nat}, aG cs Fz w vs F1 → aG gs Fz w us F2 → ∃ F R, aG ps Fz w vs F ∧ (F1 ++ F2).Perm (F ++ R))
    (h : SW P n h0 w0 Fz0 c ((σ.set G none).setB d (some (T, ps))) Q) : SW P n h0 w0 Fz0 c σ Q := fun a w hc => by
  obtain ⟨φ, Fz, Fp, hc⟩ := hc
  have hg0 : aG gs Fz w us (Fp (2 * G + 1)) := hc.slot G _ hG
  have c1 := hc.pull G
  have e0 : mv Fp (2 * G + 1) 0 = Fp (2 * G + 1) ++ Fp 0 := by simp [mv]
  obtain ⟨cur, h1, h2⟩ := c1.box d _ hd
  obtain ⟨g1, g2, g3⟩ := c1.bxb d _ hd
  obtain ⟨F, R, m1, m2⟩ := hp h2 hg0
  have c2 := c1.pullB (d := d) hd
  generalize hFp1 : mv Fp (2 * G + 1) = Fp1 at c1 c2 e0 h2 g3 m2
  have hnd := c2.nod 0
  simp only [if_true] at hnd
  have em : mv Fp1 (2 * d + 2) 0 = Fp1 (2 * d + 2) ++ Fp1 0 := by simp [mv]
  rw [em, e0] at hnd
  rw [e0] at em
  have hperm : (φ d :: (Fp1 (2 * d + 2) ++ (Fp (2 * G + 1) ++ Fp 0))).Perm (F ++ φ d :: (R ++ Fp 0)) := by
    refine (List.Perm.trans ?_ List.perm_middle.symm)
    refine List.Perm.cons _ ?_
    rw [← bl, ← bl]
    exact jy _ m2
  have c3 := c2.pushB (d := d) (g := φ d) (t := T) (cs := ps) (F := F) (X := R ++ Fp 0) (by rw [St.setB_b, if_pos rfl]) h1 m1 g2
    (fun x hx => by
      simp only [if_true]
      rw [em]
      exact hperm.mem_iff.2 hx) (hperm.nodup_iff.1 hnd) (.inl rfl)
  exact h a w (aZ.eqv ⟨_, _, _, c3⟩ (fun i => rfl) (fun e => by
    simp only [St.setB_b, St.set_b]
    split <;> rfl))
def Po {d T t e G : Nat} {α : Type} {f g : α → List PV} {fN : α × (Nat → Value) → List PV} {xss : List (List α)} {jk : List Value} (hd : σ.b d = some (T, cN (fun xs => [PV.sl (.own t e) (xs.map f)]) xss jk)) (hG : σ.s G = none) (hN : ∀ x h, fN (x, h) = gK h 0 (g x)) (hg : ∀ x, (g x).length = e) (hq : ∀ x, ao (f x) (g x)) (hb : ∀ x, ab (g x))
    (h : ∀ zss : List (List (α × (Nat → Value))), zss.map (List.map Prod.fst) = xss → SW P n h0 w0 Fz0 c ((σ.setB d (some (T, cN (fun zs => [PV.sl (.own t e) (zs.map fN)]) zss jk))).set G (some (RV.gh (bS e zss.flatten) (bT f zss.flatten)))) Q) : SW P n h0 w0 Fz0 c σ Q :=
  Ed (ι := {zss : List (List (α × (Nat → Value))) // zss.map (List.map Prod.fst) = xss}) (q := fun i => cN (fun zs => [PV.sl (.own t e) (zs.map fN)]) i.1 jk) (us := fun i => bS e i.1.flatten) (gs := fun i => bT f i.1.flatten) hd hG
    (fun hh => by
      obtain ⟨zss, F1, F2, e1, e2, e3, e4⟩ := Eb hN hg hq hb hh
      exact ⟨⟨zss, e1⟩, F1, F2, e2, e3, e4⟩) (fun i => h i.1 i.2)
def Pp {d T t e G : Nat} {α : Type} {f g : α → List PV} {fN : α × (Nat → Value) → List PV} {zss : List (List (α × (Nat → Value)))} {ws : List (α × (Nat → Value))} {jk : List Value} (hd : σ.b d = some (T, cN (fun zs => [PV.sl (.own t e) (zs.map fN)]) zss jk)) (hG : σ.s G = some (RV.gh (bS e ws) (bT f ws))) (hN : ∀ x h, fN (x, h) = gK h 0 (g x)) (hg : ∀ x, (g x).length = e) (hf : ∀ x, (f x).length = e) (hs : zss.flatten.Sublist ws)
    (h : SW P n h0 w0 Fz0 c ((σ.set G none).setB d (some (T, cN (fun xs => [PV.sl (.own t e) (xs.map f)]) (zss.map (List.map Prod.fst)) jk))) Q) : SW P n h0 w0 Fz0 c σ Q :=
  Pn hd hG (fun {Fz w vs F1 F2} h1 h2 => by
    obtain ⟨K, R0, hp0, k⟩ := DY hf hs h2
    obtain ⟨F, R, e1, hp⟩ := Ec hN hg hf h1 k
    refine ⟨F, R ++ R0, e1, ?_⟩
    refine (gv _ hp0).trans ?_
    rw [← bl, ← bl]
    exact jy _ hp) h
end
end
section
def jF {α : Type} (f : α → PV) (z : α × Value) : List PV := [PV.nv z.2 (f z.1)]
def Ee {α : Type} {f : α → PV} {Fz : av} {w : World} : ∀ {xs : List α} {css : List Value} {F : List Nat}, bU 1 (xs.map fun x => [f x]) Fz w css F → ∃ zs : List (α × Value), zs.map Prod.fst = xs ∧ bU 1 (zs.map (jF f)) Fz w css F
  | [], css, F, h => ⟨[], rfl, h⟩
  | x :: xs, css, F, h => by
    obtain ⟨c, d, F1, F2, rfl, rfl, hl, h1, h2⟩ := h
    obtain ⟨zs, e1, e2⟩ := Ee h2
    obtain ⟨v, vs', A, B, rfl, rfl, ho, hn⟩ := h1
    exact ⟨(x, v) :: zs, by rw [List.map_cons, e1], v :: vs', d, A ++ B, F2, rfl, rfl, hl, ⟨v, vs', A, B, rfl, rfl, ⟨rfl, ho⟩, hn⟩, e2⟩
def Ef {α : Type} {f : α → PV} {Fz : av} {w : World} : ∀ {zs : List (α × Value)} {css : List Value} {F : List Nat}, bU 1 (zs.map (jF f)) Fz w css F → bU 1 ((zs.map Prod.fst).map fun x => [f x]) Fz w css F
  | [], css, F, h => h
  | z :: zs, css, F, h => by
    obtain ⟨c, d, F1, F2, rfl, rfl, hl, h1, h2⟩ := h
    obtain ⟨v, vs', A, B, rfl, rfl, ho, hn⟩ := h1
    exact ⟨v :: vs', d, A ++ B, F2, rfl, rfl, hl, ⟨v, vs', A, B, rfl, rfl, ho.2, hn⟩, Ef h2⟩
def Eg {e : Nat} {Fz : av} {w : World} : ∀ {es : List (List PV)} {css : List Value} {F : List Nat}, bU e es Fz w css F → ∀ {k : Nat} {ps : List PV}, es[k]? = some ps → ∃ vs, bZ ps Fz w vs
  | [], css, F, h, k, ps, hk => by simp at hk
  | cs :: es, css, F, h, k, ps, hk => by
    obtain ⟨c, d, F1, F2, rfl, rfl, hl, h1, h2⟩ := h
    cases k with
    | zero => simp at hk; subst hk; exact ⟨c, h1.rel⟩
    | succ k => exact Eg h2 (by simpa using hk)
def Pq {α : Type} {f : α → PV} {t : Nat} {Fz : av} {w : World} {xs : List α} {v : Value} {F : List Nat} (h : cP t 1 (xs.map fun x => [f x]) Fz w v F) : ∃ zs : List (α × Value), zs.map Prod.fst = xs ∧ cP t 1 (zs.map (jF f)) Fz w v F := by
  obtain ⟨css, F', hrow, hll, hfz, rfl, hone⟩ := h
  obtain ⟨zs, e1, e2⟩ := Ee hll
  have hlen : (zs.map (jF f)).length = (xs.map fun x => [f x]).length := by rw [am, am, ← e1, am]
  exact ⟨zs, e1, css, F', by rw [hlen]; exact hrow, e2, fun g hg o => by rw [hlen]; exact hfz g hg o, rfl, hone⟩
def Pr {α : Type} {f : α → PV} {t : Nat} {Fz : av} {w : World} {zs : List (α × Value)} {v : Value} {F : List Nat} (h : cP t 1 (zs.map (jF f)) Fz w v F) : cP t 1 ((zs.map Prod.fst).map fun x => [f x]) Fz w v F := by
  obtain ⟨css, F', hrow, hll, hfz, rfl, hone⟩ := h
  have hlen : ((zs.map Prod.fst).map fun x => [f x]).length = (zs.map (jF f)).length := by simp
  exact ⟨css, F', by rw [hlen]; exact hrow, Ef hll, fun g hg o => by rw [hlen]; exact hfz g hg o, rfl, hone⟩
def ao.nv1 {u : Value} {p : PV} {qs : List PV} (h : ao [p] qs) : ao [PV.nv u p] qs := by
  cases qs with
  | nil => exact h
  | cons q l => exact ⟨PV.nv_to h.1, h.2⟩
def Ps {α : Type} {f : α → PV} {g : α → List PV} {fl : Fl} {zs : List (α × Value)} {xs : List α} (hz : zs.map Prod.fst = xs) (h : ∀ x, ao [f x] (g x)) : (PV.sl fl (zs.map (jF f))).To (PV.sl .v (xs.map g)) := by
  subst hz
  rw [List.map_map]
  refine PV.to_map fun z => ?_
  exact ao.nv1 (h z.1)
def Pt {α : Type} {zs : List (α × Value)} {xs : List α} {k : Nat} (hz : zs.map Prod.fst = xs) (hk : k < xs.length) : ∃ z, zs[k]? = some z ∧ z.1 = xs[k] := by
  subst hz
  rw [am] at hk
  exact ⟨zs[k], List.getElem?_eq_getElem hk, by rw [List.getElem_map]⟩
section
variable {P : Program} {n : Nat} {h0 : Nat → Prop} {w0 : World} {Fz0 : av} {σ : St} {Q : Exit → St → Prop} {c : Code}
def yH {d T : Nat} {A B : List PV} {p : PV} {ι : Type} {q : ι → PV} (hd : σ.b d = some (T, A ++ (p :: B))) (hp : ∀ {Fz : av} {w : World} {v : Value} {F : List Nat}, p.own Fz w v F → ∃ i, (q i).own Fz w v F)
    (h : ∀ i, SW P n h0 w0 Fz0 c (σ.setB d (some (T, A ++ (q i :: B)))) Q) : SW P n h0 w0 Fz0 c σ Q := fun a w hc => by
  obtain ⟨φ, Fz, Fp, hc⟩ := hc
  obtain ⟨cur, h1, h2⟩ := hc.box d _ hd
  obtain ⟨v1, v2, F1, F2, k1, k2, k3, v, vs', E1, E2, rfl, rfl, ho, kB⟩ := h2.split
  obtain ⟨i, hi⟩ := hp ho
  refine h i a w ⟨φ, Fz, Fp, hc.rebox hd fun cur' _ hh => ?_⟩
  have : cur' = cur := by
    rw [h1] at hh
    injection hh with hh
    injection hh with hh
    exact hh.symm
  subst this
  rw [k1, k2]
  exact k3.append ⟨v, vs', E1, E2, rfl, rfl, hi, kB⟩
def Pu {d T t : Nat} {A B : List PV} {α : Type} {f : α → PV} {xs : List α} (hd : σ.b d = some (T, A ++ (PV.sl (.own t 1) (xs.map fun x => [f x]) :: B)))
    (h : ∀ zs : List (α × Value), zs.map Prod.fst = xs → SW P n h0 w0 Fz0 c (σ.setB d (some (T, A ++ (PV.sl (.own t 1) (zs.map (jF f)) :: B)))) Q) : SW P n h0 w0 Fz0 c σ Q :=
  yH (ι := {zs : List (α × Value) // zs.map Prod.fst = xs}) (q := fun z => PV.sl (.own t 1) (z.1.map (jF f))) hd (fun ho => by
    obtain ⟨zs, e1, e2⟩ := Pq ho
    exact ⟨⟨zs, e1⟩, e2⟩) fun z => h z.1 z.2
def Pv {d T t : Nat} {A B : List PV} {α : Type} {f : α → PV} {xs : List α} {zs : List (α × Value)} (hz : zs.map Prod.fst = xs) (hd : σ.b d = some (T, A ++ (PV.sl (.own t 1) (zs.map (jF f)) :: B)))
    (h : SW P n h0 w0 Fz0 c (σ.setB d (some (T, A ++ (PV.sl (.own t 1) (xs.map fun x => [f x]) :: B)))) Q) : SW P n h0 w0 Fz0 c σ Q :=
  yH (ι := Unit) (q := fun _ => PV.sl (.own t 1) (xs.map fun x => [f x])) hd (fun ho => ⟨(), by subst hz; exact Pr ho⟩) fun _ => h
def Pw {s d T t k : Nat} {A B : List PV} {α : Type} {f : α → PV} {q : α → PV} {zs : List (α × Value)} {z : α × Value} (hs : σ.s s = some (RV.sv false [PV.val z.2])) (hd : σ.b d = some (T, A ++ (PV.sl (.own t 1) (zs.map (jF f)) :: B))) (hk : zs[k]? = some z) (hq : ∀ {x}, (f x).To (q x)) (hb : ∀ {x}, (q x).Bor)
    (h : SW P n h0 w0 Fz0 c (σ.set s (some (RV.sv false [PV.nv z.2 (q z.1)]))) Q) : SW P n h0 w0 Fz0 c σ Q := fun a w hc => by
  obtain ⟨x, v⟩ := z
  obtain ⟨φ, Fz, Fp, hc⟩ := hc
  obtain ⟨cur, h1, h2⟩ := hc.box d _ hd
  obtain ⟨v1, v2, F1, F2, k1, k2, k3, u, vs', E1, E2, rfl, rfl, ho, kB⟩ := h2.split
  have ho : cP t 1 (zs.map (jF f)) Fz w u E1 := ho
  obtain ⟨css, F', hrow, hll, hfz, rfl, hone⟩ := ho
  obtain ⟨us, hu⟩ := Eg hll (k := k) (ps := jF f (x, v)) (by rw [List.getElem?_map, hk]; rfl)
  obtain ⟨u', _, rfl, hu, _⟩ := hu
  obtain ⟨rfl, hu⟩ := hu
  have hv : cc false [PV.val u'] Fz w (a.tmps.getD s undef) (Fp (2 * s + 1)) := hc.slot s _ hs
  obtain ⟨hag, y, ys, G1, G2, hy1, hF, hy, hnil, rfl⟩ := hv
  subst hnil
  have c1 := (hc.pull s).reslot (s := s) (rv := RV.sv false [PV.nv u' (q x)]) (by
    have : mv Fp (2 * s + 1) (2 * s + 1) = [] := by simp [mv]
    rw [this]
    obtain ⟨⟨rfl, hone'⟩, rfl⟩ := hy
    exact ⟨hag, y, [], [], [], hy1, rfl, ⟨rfl, hb (hq hu)⟩, rfl, rfl⟩)
  exact h a w (aZ.eqv ⟨φ, Fz, _, c1⟩ (fun i => by
    simp only [St.set_s]
    split <;> rfl) (fun d => rfl))
def cR (gs : List PV) (us : List Value) (qs : List PV) (us' : List Value) : Prop := ∀ {Fz : av} {w : World} {F : List Nat}, aG gs Fz w us F → ∃ F' R, aG qs Fz w us' F' ∧ F.Perm (F' ++ R)
def cR.nil {gs : List PV} {us : List Value} : cR gs us [] [] := fun {_ _ F} _ => ⟨[], F, ⟨rfl, rfl⟩, List.Perm.refl _⟩
def cR.keep {p : PV} {u : Value} {gs qs : List PV} {us us' : List Value} (h : cR gs us qs us') : cR (p :: gs) (u :: us) (p :: qs) (u :: us') := fun {Fz w F} k => by
  obtain ⟨v, vs, F1, F2, e1, rfl, h1, h2⟩ := k
  injection e1 with e1 e2
  subst e1 e2
  obtain ⟨F', R, h3, h4⟩ := h h2
  exact ⟨F1 ++ F', R, ⟨u, us', F1, F', rfl, rfl, h1, h3⟩, by rw [bl]; exact gv _ h4⟩
def cR.drop {p : PV} {u : Value} {gs qs : List PV} {us us' : List Value} (h : cR gs us qs us') : cR (p :: gs) (u :: us) qs us' := fun {Fz w F} k => by
  obtain ⟨v, vs, F1, F2, e1, rfl, h1, h2⟩ := k
  injection e1 with e1 e2
  subst e1 e2
  obtain ⟨F', R, h3, h4⟩ := h h2
  refine ⟨F', F1 ++ R, h3, ?_⟩
  refine (gv F1 h4).trans ?_
  rw [← bl, ← bl]
  exact jy _ kg
def cR.lit {x : Value} {gs qs : List PV} {us us' : List Value} (hx : x.oneCell' = true) (h : cR gs us qs us') : cR gs us (PV.val x :: qs) (x :: us') := fun {Fz w F} k => by
  obtain ⟨F', R, h3, h4⟩ := h k
  exact ⟨F', R, ⟨x, us', [], F', rfl, rfl, ⟨⟨rfl, hx⟩, rfl⟩, h3⟩, h4⟩
def Eh {e : Nat} {ps : List PV} {Fz : av} {w : World} : ∀ {es : List (List PV)} {css : List Value} {F : List Nat}, bU e (es ++ [ps]) Fz w css F → ∃ c1 c2 Fa Fb, css = c1 ++ c2 ∧ F = Fa ++ Fb ∧ c2.length = e ∧ bU e es Fz w c1 Fa ∧ aG ps Fz w c2 Fb
  | [], css, F, h => by
    obtain ⟨c, d, F1, F2, rfl, rfl, hl, h1, rfl, rfl⟩ := h
    exact ⟨[], c, [], F1, by simp, by simp, hl, ⟨rfl, rfl⟩, h1⟩
  | x :: es, css, F, h => by
    obtain ⟨c, d, F1, F2, rfl, rfl, hl, h1, h2⟩ := h
    obtain ⟨c1, c2, Fa, Fb, rfl, rfl, h3, h4, h5⟩ := Eh h2
    exact ⟨c ++ c1, c2, F1 ++ Fa, Fb, by simp, by simp, h3, ⟨c, c1, F1, Fa, rfl, rfl, hl, h1, h4⟩, h5⟩
def Ei {e : Nat} {ps : List PV} {Fz : av} {w : World} {c2 : List Value} {Fb : List Nat} (hl : c2.length = e) (h5 : aG ps Fz w c2 Fb) : ∀ {es : List (List PV)} {c1 : List Value} {Fa : List Nat}, bU e es Fz w c1 Fa → bU e (es ++ [ps]) Fz w (c1 ++ c2) (Fa ++ Fb)
  | [], c1, Fa, h => by
    obtain ⟨rfl, rfl⟩ := h
    exact ⟨c2, [], Fb, [], by simp, by simp, hl, h5, rfl, rfl⟩
  | x :: es, c1, Fa, h => by
    obtain ⟨c, d, F1, F2, rfl, rfl, hl', h1, h2⟩ := h
    exact ⟨c, d ++ c2, F1, F2 ++ Fb, by simp, by simp, hl', h1, Ei hl h5 h2⟩
def Ej {t e : Nat} {es : List (List PV)} {ps qs gs : List PV} {us us' : List Value} (hn : Nm ps us') (hs : cR gs us qs us') {Fz : av} {w : World} {v : Value} {F1 F2 : List Nat} (h : (PV.sl (.own t e) (es ++ [ps])).own Fz w v F1) (k : aG gs Fz w us F2) : ∃ F R, (PV.sl (.own t e) (es ++ [qs])).own Fz w v F ∧ (F1 ++ F2).Perm (F ++ R) := by
  have h : cP t e (es ++ [ps]) Fz w v F1 := h
  obtain ⟨css, F', hrow, hll, hfz, rfl, hone⟩ := h
  obtain ⟨c1, c2, Fa, Fb, rfl, rfl, hl, h4, h5⟩ := Eh hll
  obtain rfl : c2 = us' := hn h5.rel
  obtain ⟨F'', R, h6, h7⟩ := hs k
  have hlen : (es ++ [qs]).length = (es ++ [ps]).length := by simp
  refine ⟨v.ownBlock.toList ++ (Fa ++ F''), Fb ++ R, ⟨c1 ++ c2, Fa ++ F'', by rw [hlen]; exact hrow, Ei hl h6 h4, fun g hg o => by rw [hlen]; exact hfz g hg o, rfl, hone⟩, ?_⟩
  simp only [bl]
  refine gv _ (gv _ ?_)
  refine (gv Fb h7).trans ?_
  rw [← bl, ← bl]
  exact jy _ kg
end
end
section
def Px {α : Type} {f : α → List PV} {e : Nat} (hf : ∀ x, (f x).length = e) {Fz : av} {w : World} {ys rs zs : List (α × (Nat → Value))} (hp : (ys ++ rs).Perm zs) {F : List Nat} (h : aG (bT f zs) Fz w (bS e zs) F) : ∃ F' R, F.Perm (F' ++ R) ∧ aG (bT f ys) Fz w (bS e ys) F' := by
  obtain ⟨F1, k1, k2⟩ := OK hf hp.symm h
  obtain ⟨F', R, k3, k4⟩ := DY hf (List.sublist_append_left ys rs) k2
  exact ⟨F', R, k1.trans k3, k4⟩
def Py {α : Type} {f g : α → List PV} {fN : α × (Nat → Value) → List PV} {t e : Nat} (hN : ∀ x h, fN (x, h) = gK h 0 (g x)) (hg : ∀ x, (g x).length = e) (hf : ∀ x, (f x).length = e) {ys rs zs : List (α × (Nat → Value))} (hp : (ys ++ rs).Perm zs) {xs : List α} (hx : ys.map Prod.fst = xs) {Fz : av} {w : World} {v : Value} {F1 F2 : List Nat} (h : (PV.sl (.own t e) (ys.map fN)).own Fz w v F1) (k : aG (bT f zs) Fz w (bS e zs) F2) :
    ∃ F R, (PV.sl (.own t e) (xs.map f)).own Fz w v F ∧ (F1 ++ F2).Perm (F ++ R) := by
  subst hx
  obtain ⟨F', R, k1, k2⟩ := Px hf hp k
  have h : cP t e (ys.map fN) Fz w v F1 := h
  have h2 := DZ hN hg hf h k2
  obtain ⟨F3, rfl⟩ := Ea h
  refine ⟨_, F3 ++ R, h2, ?_⟩
  simp only [bl]
  refine gv _ ?_
  refine (gv F3 k1).trans ?_
  rw [← bl, ← bl]
  exact jy _ kg
section
variable {P : Program} {n : Nat} {h0 : Nat → Prop} {w0 : World} {Fz0 : av} {σ : St} {Q : Exit → St → Prop} {c : Code}
def Pz {d t e G : Nat} {α : Type} {f g : α → List PV} {fN : α × (Nat → Value) → List PV} (x : α) (hd : σ.b d = some (t, f x)) (hG : σ.s G = none) (hN : ∀ x h, fN (x, h) = gK h 0 (g x)) (hg : ∀ x, (g x).length = e) (hq : ao (f x) (g x)) (hb : ab (g x))
    (h : ∀ k : Nat → Value, SW P n h0 w0 Fz0 c ((σ.setB d (some (t, fN (x, k)))).set G (some (RV.gh (bS e [(x, k)]) (bT f [(x, k)])))) Q) : SW P n h0 w0 Fz0 c σ Q :=
  Ed (ι := Nat → Value) (q := fun k => fN (x, k)) (us := fun k => bS e [(x, k)]) (gs := fun k => bT f [(x, k)]) hd hG (fun {Fz w vs F} ho => by
    have hl : vs.length = e := by rw [ho.len, hq.len, hg]
    obtain ⟨k, hk⟩ := DK hl
    refine ⟨k, [], F, ?_, ?_, List.Perm.refl _⟩
    · rw [hN, yz, hg, ← List.range_eq_range', ← hk]
      exact uY hb (hq.rel ho.rel)
    · have : bS e [(x, k)] = vs := by simp [bS, hk]
      rw [this]
      have : bT f [(x, k)] = f x := by simp [bT]
      rw [this]; exact ho) h
def Ek {d T t e G : Nat} {A B : List PV} {α : Type} {f g : α → List PV} {fN : α × (Nat → Value) → List PV} {ys zs : List (α × (Nat → Value))} (rs : List (α × (Nat → Value))) (xs : List α) (hd : σ.b d = some (T, A ++ (PV.sl (.own t e) (ys.map fN) :: B))) (hG : σ.s G = some (RV.gh (bS e zs) (bT f zs))) (hN : ∀ x h, fN (x, h) = gK h 0 (g x)) (hg : ∀ x, (g x).length = e) (hf : ∀ x, (f x).length = e) (hp : (ys ++ rs).Perm zs) (hx : ys.map Prod.fst = xs)
    (h : SW P n h0 w0 Fz0 c ((σ.set G none).setB d (some (T, A ++ (PV.sl (.own t e) (xs.map f) :: B)))) Q) : SW P n h0 w0 Fz0 c σ Q :=
  yG hd hG (fun h1 k => Py hN hg hf hp hx h1 k) h
end
section
variable {P : Program} {n : Nat} {h0 : Nat → Prop} {w0 : World} {Fz0 : av} {σ : St} {Q : Exit → St → Prop} {c : Code}
end
def yI (P : Program) (T : TypeId) (f : Nat) : Option (Nat × TypeId) := match P.underlying T with
  | some (.struct fs) => (fs[f]?).map fun fd => (fd.offset, fd.type)
  | _ => none
def PA {P : Program} {n : Nat} {T ft s d f off : Nat} {ty : TypeId} {pos : String} {af : Array Edge} {g : Option (Nat × Bool)} {ag : Bool} {k : Nat} {cs qs : List PV} (hd : d < n) (hF : yI P T f = some (off, ft)) (hT : cn P ft = some (ag, k)) (h1 : ag = false → k = 1) (hk : off + k ≤ cs.length) (hq : (cs.drop off).take k = qs) :
    Loc P n ⟨some d, .field T (.tmp s) f, ty, pos, af, g⟩ ⟨[(s, RV.sv true cs)], [], [(s, none), (d, some (RV.sv ag qs))], [], none⟩ := by
  intro h0 w0 Fz0 σ a w K Q hc hr _ _ h5
  obtain ⟨φ, Fz, Fp, hc⟩ := hc
  subst hq
  have hv : cc true cs Fz w (a.tmps.getD s undef) (Fp (2 * s + 1)) := hc.slot s _ hr.1
  obtain ⟨hag, ho⟩ := hv
  generalize hx : a.tmps.getD s undef = x at hag ho
  obtain ⟨vals, rfl⟩ : ∃ vals, x = .agg vals := by cases x <;> simp [nh] at hag; exact ⟨_, rfl⟩
  have hcells : (Value.agg vals).cells.toList = vals.toList := rfl
  rw [hcells] at ho
  obtain ⟨F1, F2, F3, eF, o1, o2, o3⟩ := ho.seg off k hk
  have hl : vals.toList.length = cs.length := ho.len
  obtain ⟨v, e1, e2⟩ : ∃ v, (part ft vals off).run P w = .ok v w ∧ cc ag ((cs.drop off).take k) Fz w v F2 := by
    obtain ⟨t1, t2⟩ := yb hT w
    cases ag with
    | true =>
      refine ⟨.agg (vals.extract off (off + k)), ?_, rfl, ?_⟩
      · simp only [part, Sem.run_bind, t1, t2, Result.andThen_ok, if_true, Sem.run_pure]
      · show aG _ Fz w (vals.extract off (off + k)).toList F2
        have : (vals.extract off (off + k)).toList = (vals.toList.drop off).take k := by
          rw [Array.toList_extract, List.extract_eq_take_drop]; congr 1; omega
        rw [this]; exact o2
    | false =>
      have hk1 := h1 rfl
      subst hk1
      have hlt : off < vals.size := by have : vals.toList.length = vals.size := by simp
                                       omega
      have hget : vals[off]? = some vals[off] := by simp [hlt]
      have hdt : (vals.toList.drop off).take 1 = [vals[off]] := by
        rw [List.drop_eq_getElem_cons (by simpa using hlt)]; simp
      rw [hdt] at o2
      have hone := o2.one vals[off] (by simp)
      refine ⟨vals[off], ?_, ?_⟩
      · simp only [part, Sem.run_bind, t1, Result.andThen_ok, hget]
        simp [Sem.run_pure]
      · have hc1 : vals[off].cells.toList = [vals[off]] ∧ nh vals[off] = false := by
          cases hv : vals[off] <;> rw [hv] at hone <;> simp_all [Value.oneCell', Value.cells, nh]
        exact ⟨hc1.2, by rw [hc1.1]; exact o2⟩
  have c1 := hc.pull s
  have hm0 : mv Fp (2 * s + 1) 0 = Fp (2 * s + 1) ++ Fp 0 := by simp [mv]
  have hnd := c1.nod 0
  rw [hm0, eF] at hnd
  have c2 := c1.push (i := d) (rv := RV.sv ag ((cs.drop off).take k)) (v := v) (F := F2) (X := []) hd e2 (fun b hb => by
      rw [hm0, eF]
      simp only [eH] at hb
      simp [hb]) (by
      rw [eH]
      simp only [ci] at hnd
      exact hnd.1.2.1.1)
  refine en (v := v) (w' := w) ?_ (h5 _ _ (aZ.eqv ⟨_, _, _, c2⟩ (fun j => rfl) (fun e => rfl)))
  have hs' : a.eval (.tmp s) = .agg vals := hx
  unfold execOp
  unfold yI at hF
  split at hF
  · rename_i fs hu
    obtain ⟨fd, hfd, hfe⟩ := Option.map_eq_some_iff.1 hF
    simp only [Prod.mk.injEq] at hfe
    obtain ⟨rfl, rfl⟩ := hfe
    simp only [Instr.field, hs', Sem.run_bind, run_underlying hu, Result.andThen_ok, hfd, asAgg, Sem.run_pure, e1]
  · cases hF
def hY {α : Type} (zs : List α) (i : Nat) : List α := zs.take i ++ zs.drop (i + 1)
def El {α : Type} {zs : List α} {i : Nat} (h : i < zs.length) : (hY zs i).length = zs.length - 1 := by
  unfold hY; rw [aD, bg, gG]; omega
section
variable {P : Program} {n : Nat}
end
end
section
section
variable {P : Program} {n : Nat} {h0 : Nat → Prop} {w0 : World} {Fz0 : av} {σ : St} {Q : Exit → St → Prop} {c : Code}
def PB {d t : Nat} {cs : List PV} (qs : List PV) (hd : σ.b d = some (t, cs)) (ht : ao cs qs) (hb : ab qs) (h : SW P n h0 w0 Fz0 c (σ.setB d (some (t, qs))) Q) : SW P n h0 w0 Fz0 c σ Q := fun a w hc => by
  obtain ⟨φ, Fz, Fp, hc⟩ := hc
  obtain ⟨cur, h1, h2⟩ := hc.box d _ hd
  obtain ⟨k1, k2, k3⟩ := hc.bxb d _ hd
  have c1 := hc.pullB hd
  have hn := c1.nod 0
  rw [if_pos rfl] at hn
  have c2 := c1.pushB (d := d) (g := φ d) (t := t) (cs := qs) (F := []) (X := mv Fp (2 * d + 2) 0) (by rw [St.setB_b, if_pos rfl]) h1 (hb.own (ht.rel h2.rel)) k2 (fun b hb => by rw [if_pos rfl]; simpa using hb) (by simpa using hn) (.inl rfl)
  exact h a w (aZ.eqv ⟨_, _, _, c2⟩ (fun i => rfl) (fun e => by
    simp only [St.setB_b]
    split <;> rfl))
end
def PC {P : Program} {T : TypeId} (h : P.underlying T = some (.int .u8)) : qP P T (fun n : Int => [PV.val (.int .u8 n)]) fun n => 0 ≤ n ∧ n ≤ 255 := by
  intro H enc w sp held n cs x hx
  obtain ⟨m, rfl, _, hw⟩ := DataW.trod_int h hx
  exact ⟨m, ⟨_, [], rfl, ⟨rfl, rfl⟩, rfl⟩, bounds_u8 hw⟩
end
end Go.Proofs.YtmekkgdboplbjaaGreatDoor.M
namespace Go.Proofs.YtmekkgdboplbjaaGreatDoor.M
open Go Go.RowKit
section
def PV.nv_nv {u : Value} {p q : PV} (h : p.To q) : (PV.nv u p).To (PV.nv u q) := fun k => ⟨k.1, h k.2⟩
section
variable {P : Program} {n : Nat} {h0 : Nat → Prop} {w0 : World} {Fz0 : av} {σ : St} {Q : Exit → St → Prop} {c : Code}
def PD {d T : Nat} {A B : List PV} {p : PV} (hd : σ.b d = some (T, A ++ (p :: B))) (h : ∀ u : Value, SW P n h0 w0 Fz0 c (σ.setB d (some (T, A ++ (PV.nv u p :: B)))) Q) : SW P n h0 w0 Fz0 c σ Q :=
  yH (ι := Value) (q := fun u => PV.nv u p) hd (fun {Fz w v F} ho => ⟨v, rfl, ho⟩) h
def PE {d t s : Nat} {a : Act} {w : World} {A B : List PV} {u : Value} {p q r : PV} (hc : aZ h0 w0 Fz0 n σ a w) (hd : σ.b d = some (t, A ++ (PV.nv u p :: B))) (hs : σ.s s = some (RV.sv false [PV.nv u r])) (hsn : s < n) (hq : p.To q) (hb : q.Bor) :
    aZ h0 w0 Fz0 n ((σ.setB d (some (t, A ++ (q :: B)))).set s (some (RV.sv false [p]))) a w := by
  obtain ⟨φ, Fz, Fp, hc⟩ := hc
  have hv := hc.slot s _ hs
  obtain ⟨cur, hg, h2⟩ := hc.box d _ hd
  obtain ⟨v1, v2, F1, F2, k1, k2, k3, v, vs', E1, E2, e1, e2, ho, kB⟩ := h2.split
  obtain ⟨rfl, ho⟩ := ho
  subst e1 e2
  have hu : (a.tmps.getD s undef).cells.toList = [v] := by
    obtain ⟨x, vs, e, h1, h2⟩ := hv.2.rel
    rw [e, h1.1, show vs = [] from h2]
  have eF : Fp (2 * d + 2) = F1 ++ (E1 ++ E2) := k2
  obtain ⟨m1, m2, m3⟩ := hc.bxb d _ hd
  have c1 := hc.pullB hd
  have hX0 : (fun x => if x = 0 then φ d :: mv Fp (2 * d + 2) 0 else mv Fp (2 * d + 2) x) 0 = φ d :: (Fp (2 * d + 2) ++ Fp 0) := by simp [mv]
  have hn0 : (φ d :: (Fp (2 * d + 2) ++ Fp 0)).Nodup := by rw [← hX0]; exact c1.nod 0
  rw [eF] at hn0 hX0
  simp only [fJ, ci, dS, not_or] at hn0
  obtain ⟨⟨⟨g1, g2, g3⟩, g4⟩, ⟨n1, ⟨n2, n3, n23⟩, n123⟩, n4, nx⟩ := hn0
  have hX : ∀ x, x ∈ φ d :: (F1 ++ (E1 ++ E2) ++ Fp 0) → x ∈ (fun x => if x = 0 then φ d :: mv Fp (2 * d + 2) 0 else mv Fp (2 * d + 2) x) 0 := fun x hx => by rw [hX0]; exact hx
  have c2 := c1.pushB (d := d) (g := φ d) (cs := A ++ (q :: B)) (F := F1 ++ ([] ++ E2)) (X := E1) (by rw [St.setB_b, if_pos rfl]) hg
    (by rw [k1]; exact k3.append ⟨v, vs', [], E2, rfl, rfl, hb (hq (p.toRel ho)), kB⟩) m2
    (by
      intro x hx
      refine hX x ?_
      simp only [dS, iV, List.nil_append] at hx ⊢
      rcases hx with (hx | hx) | hx | hx <;> simp [hx])
    (by
      simp only [List.nil_append, ci, fJ, dS, iV]
      refine ⟨⟨n1, n3, fun u hu v hv => n123 u hu v (.inr hv)⟩, ⟨g2, n2⟩, fun u hu v hv e => ?_⟩
      subst e
      rcases hu with hu | hu <;> rcases hv with hv | hv
      · subst hv; exact g1 hu
      · exact n123 u hu u (.inl hv) rfl
      · subst hv; exact g3 hu
      · exact n23 u hv u hu rfl) (.inl rfl)
  have hφ : (fun x => if x = d then φ d else φ x) = φ := by
    funext x
    by_cases hx : x = d <;> simp [hx]
  rw [hφ] at c2
  have c3 := c2.pull s
  have c4 := c3.push (i := s) (rv := RV.sv false [p]) (v := a.tmps.getD s undef) (F := E1) (X := []) hsn ⟨hv.1, by rw [hu]; exact ⟨v, [], E1, [], rfl, by simp, ho, rfl, rfl⟩⟩
    (by intro x hx; simp only [eH] at hx; simp [mv, cu, hx]) (by simpa using n2)
  rw [yj] at c4
  refine aZ.eqv ⟨_, _, _, c4⟩ (fun i => ?_) (fun e => ?_)
  · simp only [St.set_s]
    split
    · rfl
    · rfl
  · simp only [St.set_b, St.setB_b]
    split <;> rfl
end
section
variable {P : Program} {n : Nat} {t d s x E e bs b bt : Nat} {ty : TypeId} {pos : String} {af : Array Edge} {g : Option (Nat × Bool)} {z u : Value} {es ys : List (List PV)} {A B cs : List PV} {r : PV}
def PF {t2 : Nat} (A : List PV) (hcs : cs = A ++ (PV.nv u (PV.sl (.own E e) es) :: B)) (hd : d < n) (hsn : s < n) (hT : ew P t = some (E, e, bs)) (hz : dV P E = some z) (hoz : (z.cells.toList.all (·.oneCell')) = true) (hzs : z.cells.size = e) (he : 0 < e) (hsx : Nat.beq s x = false) (h63 : es.length + ys.length ≤ 9223372036854775807) (hbytes : (es.length + ys.length) * bs ≤ 140737488355328) :
    Loc P n ⟨some d, .call { callee := .builtin .append, args := #[.tmp s, .tmp x], argTypes := #[t, t] }, ty, pos, af, g⟩ ⟨[(s, RV.sv false [PV.nv u r]), (x, RV.slc (.own t2 e) ys)], [(b, (bt, cs))], [(s, none), (x, none), (d, some (RV.slc (.own E e) (es ++ ys)))], [(b, some (bt, A ++ (PV.sl .v es :: B)))], none⟩ := by
  subst hcs
  intro h0 w0 Fz0 σ a w K Q hc hr hrb _ h5
  have hsx' := hsx
  rw [beq_eq, decide_eq_false_iff_not] at hsx'
  have c1 := PE (q := PV.sl .v es) hc hrb.1 hr.1 hsn PV.to_none (PV.bor_sl _)
  refine dy (t2 := t2) (E := E) (z := z) (es := es) (ys := ys) (ty := ty) (pos := pos) (af := af) (g := g) hd hT hz hoz hzs he hsx h63 hbytes c1 ⟨?_, ?_, True.intro⟩ True.intro (fun d h => nomatch (show (none : Option Nat) = some d from h)) fun a' w' h => h5 a' w' (aZ.eqv h (fun i => ?_) fun e => ?_)
  · rw [St.set_s, if_pos rfl]
  · rw [St.set_s, if_neg (fun h => hsx' h.symm)]; exact hr.2.1
  · simp only [St.app, bJ, St.set_s, beq_eq]
    by_cases e1 : i = d
    · simp [e1]
    · by_cases e2 : i = x
      · simp [e1, e2]
      · by_cases e3 : i = s <;> simp [e1, e2, e3, St.setB]
  · simp only [St.app, bJ, St.set_b, St.setB_b, beq_eq]
    by_cases e1 : e = b <;> simp [e1]
end
end
end Go.Proofs.YtmekkgdboplbjaaGreatDoor.M
