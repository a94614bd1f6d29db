/- The logic. No condition. -/
import Derived.Test.YtmekkgdboplbjaaGreatCB0
import Derived.KernelRfl
import Derived.Laws.Strings3
import Derived.Laws.BytesString
import Derived.Laws.Concat
import Derived.Lib.LaidTab
import Derived.Lib.Join
import Derived.Lib.ItoaNum
import Derived.Lib.ItoaLen
import Derived.Sort.Grow
import Derived.Deep.Draws
import Derived.ProofKit
import Derived.OpenShut
import Derived.Carry
import Derived.Below
import Derived.ChangeSame
import Derived.ChangeArms
import Derived.WideKeyArgs
import Derived.Deep.Slices
set_option linter.all false
namespace Go.Proofs.YtmekkgdboplbjaaGreat.M
open Go Go.RowKit
section
section
variable {P : Program} {n : Nat} {h0 : Nat → Prop} {w0 : World} {Fz0 : ay} {ops : Array Oper} {σ σ0 : St} {QS : St → Prop} {Q : Exit → St → Prop} {o : Oper} {l : List Oper} {acc : List (Nat × aC)} {c : Code}
def rA {L : aC} (y : aq P n ops QS l (σ.app L)) (h1 : bc L.rs σ.s := by repeat (first | exact True.intro | refine And.intro rfl ?_)) (h2 : bc L.rb σ.b := by repeat (first | exact True.intro | refine And.intro rfl ?_)) (x : Loc P n o L) (hg : o.guard = none := by exact rfl) (ha : L.al = none := by exact rfl) : aq P n ops QS (o :: l) σ :=
  aq.step h1 h2 (bX.of hg x) (fun d hd => by rw [ha] at hd; cases hd) y
def rB {L : aC} {g s : Nat} {b c : Bool} (hb : c = b) (y : aq P n ops QS l (σ.app ⟨(s, RV.bool c) :: L.rs, L.rb, L.ws, L.wb, L.al⟩)) (hg : o.guard = some (g, b) := by exact rfl) (hs : (ops[g]?).bind (·.dst) = some s := by exact rfl) (h1 : bc ((s, RV.bool c) :: L.rs) σ.s := by repeat (first | exact True.intro | refine And.intro rfl ?_)) (h2 : bc L.rb σ.b := by repeat (first | exact True.intro | refine And.intro rfl ?_)) (x : Loc P n o L) (hlt : s < n := by decide) (ha : L.al = none := by exact rfl) : aq P n ops QS (o :: l) σ :=
  aq.step (L := ⟨(s, RV.bool c) :: L.rs, L.rb, L.ws, L.wb, L.al⟩) h1 h2 (bX.yes hg hs hlt hb x) (fun d hd => by have hd : L.al = some d := hd; rw [ha] at hd; cases hd) y
def dA {L : aC} (m : Nat) (y : bJ P n ops σ0 (fun _ _ => True) QS l (acc ++ [(m, L)]) (σ.app L)) (h1 : bc L.rs σ.s := by repeat (first | exact True.intro | refine And.intro rfl ?_)) (h2 : bc L.rb σ.b := by repeat (first | exact True.intro | refine And.intro rfl ?_)) (x : Loc P n o L) (hg : o.guard = none := by exact rfl) (ha : L.al = none := by exact rfl) (h4 : nb m o L acc = true := by kernel_rfl) : bJ P n ops σ0 (fun _ _ => True) QS (o :: l) acc σ :=
  bJ.step m h1 h2 (bX.of hg x) (fun d hd => by rw [ha] at hd; cases hd) h4 y
def dB {L : aC} {g s : Nat} {b c : Bool} (m : Nat) (hb : c = b) (y : bJ P n ops σ0 (fun _ _ => True) QS l (acc ++ [(m, ⟨(s, RV.bool c) :: L.rs, L.rb, L.ws, L.wb, L.al⟩)]) (σ.app ⟨(s, RV.bool c) :: L.rs, L.rb, L.ws, L.wb, L.al⟩)) (hg : o.guard = some (g, b) := by exact rfl) (hs : (ops[g]?).bind (·.dst) = some s := by exact rfl) (h1 : bc ((s, RV.bool c) :: L.rs) σ.s := by repeat (first | exact True.intro | refine And.intro rfl ?_)) (h2 : bc L.rb σ.b := by repeat (first | exact True.intro | refine And.intro rfl ?_)) (x : Loc P n o L) (hlt : s < n := by decide) (ha : L.al = none := by exact rfl)
    (h4 : nb m o ⟨(s, RV.bool c) :: L.rs, L.rb, L.ws, L.wb, L.al⟩ acc = true := by kernel_rfl) : bJ P n ops σ0 (fun _ _ => True) QS (o :: l) acc σ :=
  bJ.step (L := ⟨(s, RV.bool c) :: L.rs, L.rb, L.ws, L.wb, L.al⟩) m h1 h2 (bX.yes hg hs hlt hb x) (fun d hd => by have hd : L.al = some d := hd; rw [ha] at hd; cases hd) h4 y
def dF {g s d : Nat} {c : Bool} (m : Nat) (hb : c = false) (y : bJ P n ops σ0 (fun _ _ => True) QS l (acc ++ [(m, ⟨[(s, RV.bool c)], [], [(d, some RV.und)], [], none⟩)]) (σ.app ⟨[(s, RV.bool c)], [], [(d, some RV.und)], [], none⟩)) (hg : o.guard = some (g, true) := by exact rfl) (hs : (ops[g]?).bind (·.dst) = some s := by exact rfl) (hlt : s < n := by decide) (hd : o.dst = some d := by exact rfl)
    (h1 : σ.s s = some (RV.bool c) := by exact rfl) (h4 : nb m o ⟨[(s, RV.bool c)], [], [(d, some RV.und)], [], none⟩ acc = true := by kernel_rfl) : bJ P n ops σ0 (fun _ _ => True) QS (o :: l) acc σ :=
  bJ.step (L := ⟨[(s, RV.bool c)], [], [(d, some RV.und)], [], none⟩) m ⟨h1, True.intro⟩ True.intro (bX.no hg hs hlt hb hd) gq h4 y
def dT {g s d : Nat} {c : Bool} (m : Nat) (hb : c = true) (y : bJ P n ops σ0 (fun _ _ => True) QS l (acc ++ [(m, ⟨[(s, RV.bool c)], [], [(d, some RV.und)], [], none⟩)]) (σ.app ⟨[(s, RV.bool c)], [], [(d, some RV.und)], [], none⟩)) (hg : o.guard = some (g, false) := by exact rfl) (hs : (ops[g]?).bind (·.dst) = some s := by exact rfl) (hlt : s < n := by decide) (hd : o.dst = some d := by exact rfl)
    (h1 : σ.s s = some (RV.bool c) := by exact rfl) (h4 : nb m o ⟨[(s, RV.bool c)], [], [(d, some RV.und)], [], none⟩ acc = true := by kernel_rfl) : bJ P n ops σ0 (fun _ _ => True) QS (o :: l) acc σ :=
  bJ.step (L := ⟨[(s, RV.bool c)], [], [(d, some RV.und)], [], none⟩) m ⟨h1, True.intro⟩ True.intro (bX.no hg hs hlt hb hd) gq h4 y
def dU {g s d : Nat} {b : Bool} (m : Nat) (y : bJ P n ops σ0 (fun _ _ => True) QS l (acc ++ [(m, ⟨[(s, RV.und)], [], [(d, some RV.und)], [], none⟩)]) (σ.app ⟨[(s, RV.und)], [], [(d, some RV.und)], [], none⟩)) (hg : o.guard = some (g, b) := by exact rfl) (hs : (ops[g]?).bind (·.dst) = some s := by exact rfl) (hd : o.dst = some d := by exact rfl)
    (h1 : σ.s s = some RV.und := by exact rfl) (h4 : nb m o ⟨[(s, RV.und)], [], [(d, some RV.und)], [], none⟩ acc = true := by kernel_rfl) : bJ P n ops σ0 (fun _ _ => True) QS (o :: l) acc σ :=
  bJ.step (L := ⟨[(s, RV.und)], [], [(d, some RV.und)], [], none⟩) m ⟨h1, True.intro⟩ True.intro (bX.noU hg hs hd) gq h4 y
def sO (l : List (Nat × RV)) (b : List (Nat × (Nat × List PV))) (h : SW P n h0 w0 Fz0 c (St.of l b) Q) (hl : bc l σ.s := by repeat (first | exact True.intro | refine And.intro rfl ?_)) (hb : bc b σ.b := by repeat (first | exact True.intro | refine And.intro rfl ?_)) : SW P n h0 w0 Fz0 c σ Q := UX hl hb h
def wO (m : List (Nat × RV)) (b : List (Nat × (Nat × List PV))) (h : kz P n h0 w0 Fz0 ops l (St.of m b) Q) (hl : bc m σ.s := by repeat (first | exact True.intro | refine And.intro rfl ?_)) (hb : bc b σ.b := by repeat (first | exact True.intro | refine And.intro rfl ?_)) : kz P n h0 w0 Fz0 ops l σ Q := Vf hl hb h
def wA {L : aC} (y : kz P n h0 w0 Fz0 ops l (σ.app L) Q) (h1 : bc L.rs σ.s := by repeat (first | exact True.intro | refine And.intro rfl ?_)) (h2 : bc L.rb σ.b := by repeat (first | exact True.intro | refine And.intro rfl ?_)) (x : Loc P n o L) (hg : o.guard = none := by exact rfl) (ha : L.al = none := by exact rfl) : kz P n h0 w0 Fz0 ops (o :: l) σ Q :=
  Ve h1 h2 (bX.of hg x) (fun d hd => by rw [ha] at hd; cases hd) y
end
section
variable {P : Program} {n : Nat} {d x : Nat} {ty : TypeId} {pos : String} {af : Array Edge} {g : Option (Nat × Bool)}
def cM {r r' : RV} (hc : Cp r r') (hd : d < n := by decide) : Loc P n ⟨some d, .move (.tmp x), ty, pos, af, g⟩ ⟨[(x, r)], [], [(d, some r')], [], none⟩ := iL (.inl rfl) hd hc
def cA {r r' : RV} (hc : Cp r r') (hd : d < n := by decide) : Loc P n ⟨some d, .assign (.tmp x), ty, pos, af, g⟩ ⟨[(x, r)], [], [(d, some r')], [], none⟩ := iL (.inr rfl) hd hc
def sM {v : Value} (hd : d < n := by decide) : Loc P n ⟨some d, .move (.tmp x), ty, pos, af, g⟩ ⟨[(x, RV.sc v)], [], [(d, some (RV.sc v))], [], none⟩ := cM Cp.sc hd
def sA {v : Value} (hd : d < n := by decide) : Loc P n ⟨some d, .assign (.tmp x), ty, pos, af, g⟩ ⟨[(x, RV.sc v)], [], [(d, some (RV.sc v))], [], none⟩ := cA Cp.sc hd
def vM {cs : List PV} (ag : Bool) (qs : List PV) (ht : ao cs qs := by repeat' (first | exact True.intro | exact PV.To.refl _ | exact PV.to_none | apply And.intro)) (hb : aj qs := by repeat (first | exact aj.nil | refine aj.cons (PV.bor_val _) ?_ | refine aj.cons (PV.bor_sl _) ?_ | refine aj.cons (PV.bor_lo _ _) ?_)) (hd : d < n := by decide) :
    Loc P n ⟨some d, .move (.tmp x), ty, pos, af, g⟩ ⟨[(x, RV.sv ag cs)], [], [(d, some (RV.sv ag qs))], [], none⟩ := cM (Cp.sv ht hb) hd
def vA {cs : List PV} (ag : Bool) (qs : List PV) (ht : ao cs qs := by repeat' (first | exact True.intro | exact PV.To.refl _ | exact PV.to_none | apply And.intro)) (hb : aj qs := by repeat (first | exact aj.nil | refine aj.cons (PV.bor_val _) ?_ | refine aj.cons (PV.bor_sl _) ?_ | refine aj.cons (PV.bor_lo _ _) ?_)) (hd : d < n := by decide) :
    Loc P n ⟨some d, .assign (.tmp x), ty, pos, af, g⟩ ⟨[(x, RV.sv ag cs)], [], [(d, some (RV.sv ag qs))], [], none⟩ := cA (Cp.sv ht hb) hd
def tM {r : RV} (hd : d < n := by decide) : Loc P n ⟨some d, .move (.tmp x), ty, pos, af, g⟩ ⟨[(x, r)], [], [(x, none), (d, some r)], [], none⟩ := uy (.inl rfl) hd
def tA {r : RV} (hd : d < n := by decide) : Loc P n ⟨some d, .assign (.tmp x), ty, pos, af, g⟩ ⟨[(x, r)], [], [(x, none), (d, some r)], [], none⟩ := uy (.inr rfl) hd
def kM {v : Value} (h : v.oneCell' = true := by exact rfl) (hd : d < n := by decide) : Loc P n ⟨some d, .move (.const v), ty, pos, af, g⟩ ⟨[], [], [(d, some (RV.sc v))], [], none⟩ := kx (.inl rfl) hd (bM h)
def kA {v : Value} (h : v.oneCell' = true := by exact rfl) (hd : d < n := by decide) : Loc P n ⟨some d, .assign (.const v), ty, pos, af, g⟩ ⟨[], [], [(d, some (RV.sc v))], [], none⟩ := kx (.inr rfl) hd (bM h)
def lD {T p b off t : Nat} {ag : Bool} {k : Nat} {cs : List PV} (qs : List PV) (hT : cO P T = some (ag, k)) (h1 : ag = false → k = 1 := by first | exact fun _ => rfl | exact fun h => nomatch h) (hk : off + k ≤ cs.length := by exact Nat.le_of_ble_eq_true rfl) (ht : ao ((cs.drop off).take k) qs := by repeat' (first | exact True.intro | exact PV.To.refl _ | exact PV.to_none | apply And.intro))
    (hb : aj qs := by repeat (first | exact aj.nil | refine aj.cons (PV.bor_val _) ?_ | refine aj.cons (PV.bor_sl _) ?_ | refine aj.cons (PV.bor_lo _ _) ?_)) (hd : d < n := by decide) :
    Loc P n ⟨some d, .load T (.tmp p), ty, pos, af, g⟩ ⟨[(p, RV.ptr b off)], [(b, (t, cs))], [(d, some (RV.sv ag qs))], [], none⟩ := gp hd hT h1 hk ht hb
def lE {T p : Nat} {ag : Bool} {k : Nat} {cs : List PV} (qs : List PV) (hT : cO P T = some (ag, k)) (h1 : ag = false → k = 1 := by first | exact fun _ => rfl | exact fun h => nomatch h) (hk : k ≤ cs.length := by exact Nat.le_of_ble_eq_true rfl) (ht : ao (cs.take k) qs := by repeat' (first | exact True.intro | exact PV.To.refl _ | exact PV.to_none | apply And.intro))
    (hb : aj qs := by repeat (first | exact aj.nil | refine aj.cons (PV.bor_val _) ?_ | refine aj.cons (PV.bor_sl _) ?_ | refine aj.cons (PV.bor_lo _ _) ?_)) (hd : d < n := by decide) :
    Loc P n ⟨some d, .load T (.tmp p), ty, pos, af, g⟩ ⟨[(p, RV.eptr cs)], [], [(d, some (RV.sv ag qs))], [], none⟩ := nS hd hT h1 hk ht hb
def lF {T p b off f fo : Nat} (hT : bO P T f = some fo) (hd : d < n := by decide) : Loc P n ⟨some d, .fieldAddr T (.tmp p) f, ty, pos, af, g⟩ ⟨[(p, RV.ptr b off)], [], [(d, some (RV.ptr b (off + fo)))], [], none⟩ := Hf hd hT
def lN {T E e bs s m : Nat} {o : Fl} {es : List (List PV)} (hT : eC P T = some (E, e, bs)) (hm : es.length = m := by first | exact aw _ | exact rfl) (hd : d < n := by decide) :
    Loc P n ⟨some d, .call { callee := .builtin .len, args := #[.tmp s], argTypes := #[T] }, ty, pos, af, g⟩ ⟨[(s, RV.slc o es)], [], [(d, some (RV.int (m : Int)))], [], none⟩ := UR hd hT hm
def nT {T : TypeId} {b : Bool} (hd : d < n := by decide) : Loc P n ⟨some d, .unOp .not T (.tmp x), ty, pos, af, g⟩ ⟨[(x, RV.bool b)], [], [(d, some (RV.bool !b))], [], none⟩ := UQ hd
def aO {c x y : Operand} {b : Bool} {r : RV} (hg : b = true) (hc : bN c (RV.bool b) := by exact True.intro) (hz : bN x r := by first | exact True.intro | exact bM rfl) (hcp : Cp r r := by exact Cp.sc) (hd : d < n := by decide) : Loc P n ⟨some d, .pick c x y, ty, pos, af, g⟩ ⟨bA c (RV.bool b) ++ bA x r, [], [(d, some r)], [], none⟩ := Ha (z := x) hd (by rw [hg]; rfl) hc hz hcp
def aF {c x y : Operand} {b : Bool} {r : RV} (hg : b = false) (hc : bN c (RV.bool b) := by exact True.intro) (hz : bN y r := by first | exact True.intro | exact bM rfl) (hcp : Cp r r := by exact Cp.sc) (hd : d < n := by decide) : Loc P n ⟨some d, .pick c x y, ty, pos, af, g⟩ ⟨bA c (RV.bool b) ++ bA y r, [], [(d, some r)], [], none⟩ := Ha (z := y) hd (by rw [hg]; rfl) hc hz hcp
def cL {f : Nat} {args : Array Operand} {tys : Array TypeId} {r : RV} (qs as_ : List (Bool × List PV)) (hf : aH P f = true) (hok : lH args.toList qs := by repeat' (first | exact True.intro | exact bM rfl | exact Uz | apply And.intro))
    (hto : lI qs as_ := by repeat' (first | exact True.intro | exact rfl | exact PV.To.refl _ | exact PV.to_none | apply And.intro)) (hs : aN P f as_ r) (hd : d < n := by decide) : Loc P n ⟨some d, .call { callee := .value (.func f), args := args, argTypes := tys }, ty, pos, af, g⟩ ⟨jJ args.toList qs, [], [(d, some r)], [], none⟩ := uB hd hf hok hto hs
section
variable {T T2 : TypeId} {x y : Operand} {i j : Int}
def dq (hx : bN x (RV.int i) := by first | exact True.intro | exact bM rfl) (hy : bN y (RV.int j) := by first | exact True.intro | exact bM rfl) (hd : d < n := by decide) : Loc P n ⟨some d, .binOp .lss T x y T2, ty, pos, af, g⟩ ⟨bA x (RV.int i) ++ bA y (RV.int j), [], [(d, some (RV.bool (decide (i < j))))], [], none⟩ := UJ hd hx hy
def ix (hx : bN x (RV.int i) := by first | exact True.intro | exact bM rfl) (hy : bN y (RV.int j) := by first | exact True.intro | exact bM rfl) (hd : d < n := by decide) : Loc P n ⟨some d, .binOp .leq T x y T2, ty, pos, af, g⟩ ⟨bA x (RV.int i) ++ bA y (RV.int j), [], [(d, some (RV.bool (decide (i ≤ j))))], [], none⟩ := UK hd hx hy
def dI (hx : bN x (RV.int i) := by first | exact True.intro | exact bM rfl) (hy : bN y (RV.int j) := by first | exact True.intro | exact bM rfl) (hd : d < n := by decide) : Loc P n ⟨some d, .binOp .gtr T x y T2, ty, pos, af, g⟩ ⟨bA x (RV.int i) ++ bA y (RV.int j), [], [(d, some (RV.bool (decide (i > j))))], [], none⟩ := UL hd hx hy
def iy (hx : bN x (RV.int i) := by first | exact True.intro | exact bM rfl) (hy : bN y (RV.int j) := by first | exact True.intro | exact bM rfl) (hd : d < n := by decide) : Loc P n ⟨some d, .binOp .geq T x y T2, ty, pos, af, g⟩ ⟨bA x (RV.int i) ++ bA y (RV.int j), [], [(d, some (RV.bool (decide (i ≥ j))))], [], none⟩ := UM hd hx hy
def dQ (hx : bN x (RV.int i) := by first | exact True.intro | exact bM rfl) (hy : bN y (RV.int j) := by first | exact True.intro | exact bM rfl) (hd : d < n := by decide) : Loc P n ⟨some d, .binOp .eql T x y T2, ty, pos, af, g⟩ ⟨bA x (RV.int i) ++ bA y (RV.int j), [], [(d, some (RV.bool (i == j)))], [], none⟩ := UN hd hx hy
def dr (hx : bN x (RV.int i) := by first | exact True.intro | exact bM rfl) (hy : bN y (RV.int j) := by first | exact True.intro | exact bM rfl) (hd : d < n := by decide) : Loc P n ⟨some d, .binOp .neq T x y T2, ty, pos, af, g⟩ ⟨bA x (RV.int i) ++ bA y (RV.int j), [], [(d, some (RV.bool (i != j)))], [], none⟩ := UO hd hx hy
def jm (hx : bN x (RV.int i) := by first | exact True.intro | exact bM rfl) (hy : bN y (RV.int j) := by first | exact True.intro | exact bM rfl) (h : jI (i + j) := by unfold jI; omega) (hd : d < n := by decide) : Loc P n ⟨some d, .binOp .add T x y T2, ty, pos, af, g⟩ ⟨bA x (RV.int i) ++ bA y (RV.int j), [], [(d, some (RV.int (i + j)))], [], none⟩ := Bb hd hx hy h
def fI (hx : bN x (RV.int i) := by first | exact True.intro | exact bM rfl) (hy : bN y (RV.int j) := by first | exact True.intro | exact bM rfl) (h : jI (i - j) := by unfold jI; omega) (hd : d < n := by decide) : Loc P n ⟨some d, .binOp .sub T x y T2, ty, pos, af, g⟩ ⟨bA x (RV.int i) ++ bA y (RV.int j), [], [(d, some (RV.int (i - j)))], [], none⟩ := UP hd hx hy h
end
end
end
section
section
variable {P : Program} {n : Nat}
section
variable {T : TypeId} {x y : Operand} {i j : Int} {k : IntKind} {w : World}
end
section
variable {T T2 : TypeId} {x y : Operand} {d : Nat} {ty : TypeId} {pos : String} {af : Array Edge} {g : Option (Nat × Bool)} {i j : Int} {k : IntKind}
def HS {src dst : TypeId} {k2 : IntKind} (hS : P.underlying src = some (.int k)) (hD : P.underlying dst = some (.int k2)) (hj : k2.wrap i = j) (hx : bN x (RV.sc (.int k i)) := by first | exact True.intro | exact bM rfl) (hd : d < n := by decide) :
    Loc P n ⟨some d, .convert src dst x, ty, pos, af, g⟩ ⟨bA x (RV.sc (.int k i)), [], [(d, some (RV.sc (.int k2 j)))], [], none⟩ := by
  intro h0 w0 Fz0 σ a w K Q h1 h2 _ _ h5
  obtain ⟨φ, Fz, Fp, hc⟩ := h1
  have ex := hc.sc h2 hx
  refine ek (v := .int k2 j) (w' := w) ?_ (h5 _ _ (hc.put0 hd (ct.of_sc rfl)))
  unfold execOp
  simp [ex, convert, run_underlying hS, run_underlying hD, Conv.intToInt, hj]
end
section
variable {h0 : Nat → Prop} {w0 : World} {Fz0 : ay} {σ : St} {Q : Exit → St → Prop} {c1 c2 : Code}
end
end
end
section
def jn : List Value → List PV → List PV
  | u :: us, p :: ps => PV.nv u p :: jn us ps
  | _, _ => []
def xD {Fz : ay} {w : World} : ∀ {ps : List PV} {us : List Value}, aj ps → bS ps Fz w us → aL (jn us ps) Fz w us []
  | [], us, _, h => by
    have h : us = [] := h
    subst h; exact ⟨rfl, rfl⟩
  | p :: ps, us, hb, h => by
    obtain ⟨v, vs, rfl, h1, h2⟩ := h
    exact ⟨v, vs, [], [], rfl, rfl, ⟨rfl, hb p (by simp) h1⟩, xD (fun q hq => hb q (by simp [hq])) h2⟩
def eb (h : Nat → Value) : Nat → List PV → List PV
  | _, [] => []
  | i, p :: ps => PV.nv (h i) p :: eb h (i + 1) ps
def xE (h : Nat → Value) : ∀ (ps : List PV) (i : Nat), eb h i ps = jn ((List.range' i ps.length).map h) ps
  | [], i => rfl
  | p :: ps, i => by rw [eb, xE h ps (i + 1)]; rfl
def bm {α : Type} (e : Nat) (zs : List (α × (Nat → Value))) : List Value := (zs.map fun z => (List.range e).map z.2).flatten
def bK {α : Type} (f : α → List PV) (zs : List (α × (Nat → Value))) : List PV := (zs.map fun z => f z.1).flatten
def HT : ∀ {us vs : List Value} {ps qs : List PV}, us.length = ps.length → jn (us ++ vs) (ps ++ qs) = jn us ps ++ jn vs qs
  | [], vs, [], qs, _ => rfl
  | u :: us, vs, p :: ps, qs, h => by
    simp only [List.cons_append, jn]
    rw [HT (by simpa using h)]
def By {e : Nat} {us : List Value} (h : us.length = e) : ∃ k : Nat → Value, us = (List.range e).map k := by
  refine ⟨fun i => us.getD i undef, ?_⟩
  subst h
  apply List.ext_getElem
  · simp
  · intro i h1 h2
    simp [h1]
def HU {α : Type} {g : α → List PV} {fN : α × (Nat → Value) → List PV} {e : Nat} (hN : ∀ x h, fN (x, h) = eb h 0 (g x)) (hg : ∀ x, (g x).length = e) (jk : List PV) : ∀ (xs : List α) (us : List Value), us.length = xs.length * e + jk.length →
    ∃ (zs : List (α × (Nat → Value))) (vs : List Value), zs.map Prod.fst = xs ∧ us = bm e zs ++ vs ∧ vs.length = jk.length ∧ jn us ((xs.map g).flatten ++ jk) = (zs.map fN).flatten ++ jn vs jk
  | [], us, h => ⟨[], us, rfl, rfl, by simpa using h, rfl⟩
  | x :: xs, us, h => by
    have hs : (x :: xs).length * e = e + xs.length * e := by rw [List.length_cons, Nat.succ_mul]; omega
    obtain ⟨k, hk⟩ := By (e := e) (us := us.take e) (by rw [bv]; omega)
    obtain ⟨zs, vs, e1, e2, e3, e4⟩ := HU hN hg jk xs (us.drop e) (by rw [fH]; omega)
    refine ⟨(x, k) :: zs, vs, by rw [List.map_cons, e1], ?_, e3, ?_⟩
    · rw [← fg e us, hk, e2]
      simp [bm, bu]
    · rw [← fg e us]
      have : ((x :: xs).map g).flatten ++ jk = g x ++ ((xs.map g).flatten ++ jk) := by simp
      rw [this, HT (by rw [hg, bv]; omega), e4, hk]
      simp only [List.map_cons, List.flatten_cons, bu]
      rw [hN, xE, hg, List.range_eq_range']
def HV {α : Type} {f g : α → List PV} (h : ∀ x, ao (f x) (g x)) : ∀ (xs : List α) {js : List PV}, ao ((xs.map f).flatten ++ js) ((xs.map g).flatten ++ js)
  | [], js => ao.refl js
  | x :: xs, js => by
    have k : ∀ {ps qs rs ss : List PV}, ao ps qs → ao rs ss → ao (ps ++ rs) (qs ++ ss) := by
      intro ps
      induction ps with
      | nil => intro qs rs ss h1 h2; cases qs with
        | nil => exact h2
        | cons q qs => exact h1.elim
      | cons p ps ih => intro qs rs ss h1 h2; cases qs with
        | nil => exact h1.elim
        | cons q qs => exact ⟨h1.1, ih h1.2 h2⟩
    simp only [List.map_cons, List.flatten_cons, bu]
    exact k (h x) (HV h xs)
def Vs {α : Type} {g : α → List PV} (h : ∀ x, aj (g x)) (xs : List α) (jk : List Value) : aj ((xs.map g).flatten ++ jk.map PV.val) := fun p hp => by
  rcases List.mem_append.1 hp with hp | hp
  · obtain ⟨cs, hcs, hp⟩ := List.mem_flatten.1 hp
    obtain ⟨x, _, rfl⟩ := List.mem_map.1 hcs
    exact h x p hp
  · obtain ⟨v, _, rfl⟩ := List.mem_map.1 hp
    exact PV.bor_val _
def HW {Fz : ay} {w : World} : ∀ {jk us vs : List Value} {F : List Nat}, aL (jn us (jk.map PV.val)) Fz w vs F → us.length = jk.length → aL (jk.map PV.val) Fz w vs F
  | [], us, vs, F, h, hl => by
    have : us = [] := iJ hl
    subst this; exact h
  | j :: jk, [], vs, F, h, hl => by simp at hl
  | j :: jk, u :: us, vs, F, h, hl => by
    obtain ⟨v, vs', F1, F2, rfl, rfl, h1, h2⟩ := h
    exact ⟨v, vs', F1, F2, rfl, rfl, h1.2, HW h2 (by simpa using hl)⟩
def Vt {α : Type} {f : α → List PV} {e : Nat} (hf : ∀ x, (f x).length = e) {Fz : ay} {w : World} {zs ys : List (α × (Nat → Value))} (hp : zs.Perm ys) : ∀ {F : List Nat}, aL (bK f zs) Fz w (bm e zs) F → ∃ F', F.Perm F' ∧ aL (bK f ys) Fz w (bm e ys) F' := by
  have hone : ∀ {z : α × (Nat → Value)} {l : List (α × (Nat → Value))} {F : List Nat}, aL (bK f (z :: l)) Fz w (bm e (z :: l)) F → ∃ F1 F2, F = F1 ++ F2 ∧ aL (f z.1) Fz w ((List.range e).map z.2) F1 ∧ aL (bK f l) Fz w (bm e l) F2 := by
    intro z l F h
    have h : aL (f z.1 ++ bK f l) Fz w ((List.range e).map z.2 ++ bm e l) F := h
    obtain ⟨v1, v2, F1, F2, e1, rfl, h1, h2⟩ := h.split
    have hl : ((List.range e).map z.2).length = v1.length := by rw [h1.len, hf]; simp
    obtain ⟨rfl, rfl⟩ := List.append_inj e1 hl
    exact ⟨F1, F2, rfl, h1, h2⟩
  induction hp with
  | nil => intro F h; exact ⟨F, List.Perm.refl _, h⟩
  | cons z _ ih =>
    intro F h
    obtain ⟨F1, F2, rfl, h1, h2⟩ := hone h
    obtain ⟨F', k1, k2⟩ := ih h2
    exact ⟨F1 ++ F', fP F1 k1, h1.append k2⟩
  | swap z y l =>
    intro F h
    obtain ⟨F1, F2, rfl, h1, h2⟩ := hone h
    obtain ⟨F3, F4, rfl, h3, h4⟩ := hone h2
    refine ⟨F3 ++ (F1 ++ F4), ?_, h3.append (h1.append h4)⟩
    rw [← bu, ← bu]
    exact iK _ jH
  | trans _ _ ih1 ih2 =>
    intro F h
    obtain ⟨F1, k1, h1⟩ := ih1 h
    obtain ⟨F2, k2, h2⟩ := ih2 h1
    exact ⟨F2, k1.trans k2, h2⟩
section
variable {P : Program} {n : Nat} {h0 : Nat → Prop} {w0 : World} {Fz0 : ay} {σ : St} {Q : Exit → St → Prop} {c : Code} {ops : Array Oper}
def uN {d t G : Nat} {cs qs : List PV} (hd : σ.b d = some (t, cs)) (hG : σ.s G = none) (hq : ao cs qs) (hb : aj qs) (h : ∀ us : List Value, (∃ Fz w, bS cs Fz w us) → SW P n h0 w0 Fz0 c ((σ.setB d (some (t, jn us qs))).set G (some (RV.gh us cs))) Q) : SW P n h0 w0 Fz0 c σ Q := fun a w hc => by
  obtain ⟨φ, Fz, Fp, hc⟩ := hc
  obtain ⟨cur, h1, h2⟩ := hc.box d _ hd
  have k0 := hc.pull G
  have e0 : ∀ i rv, (σ.set G none).s i = some rv → i ≠ G ∧ σ.s i = some rv := fun i rv hi => by
    rw [St.set_s] at hi
    split at hi
    · cases hi
    · rename_i hne; exact ⟨hne, hi⟩
  have hne : mv Fp (2 * G + 1) (2 * d + 2) = Fp (2 * d + 2) := by
    simp only [mv]; rw [if_neg (by omega), if_neg (by omega)]
  have hgn : mv Fp (2 * G + 1) (2 * G + 1) = [] := by simp [mv]
  generalize hFp1 : mv Fp (2 * G + 1) = Fp1 at k0 hne hgn
  refine h cur.toList ⟨Fz, w, h2.rel⟩ a w ⟨φ, Fz, lb Fp1 (2 * d + 2) (2 * G + 1), ?_⟩
  have hsub : ∀ r b, b ∈ lb Fp1 (2 * d + 2) (2 * G + 1) r → ∃ r', b ∈ Fp1 r' := fun r b hb => by
    rcases Bi hb with ⟨_, k⟩ | ⟨_, _, k⟩
    · exact ⟨_, k⟩
    · exact ⟨_, k⟩
  exact { k0 with
    slot := fun i rv hi => by
      rw [St.set_s] at hi
      split at hi
      · rename_i e
        subst e
        injection hi with hi
        subst hi
        show aL cs Fz w cur.toList (lb Fp1 (2 * d + 2) (2 * i + 1) (2 * i + 1))
        simp only [lb, if_true]
        rw [hne]; exact h2
      · rename_i e
        have := k0.slot i rv (by rw [St.set_s, if_neg e]; exact hi)
        simp only [lb]
        rw [if_neg (by omega), if_neg (by omega)]
        exact this
    box := fun e bx he => by
      rw [St.set_b, St.setB_b] at he
      split at he
      · rename_i e'; subst e'; injection he with he; subst he
        refine ⟨cur, h1, ?_⟩
        simp only [lb]
        rw [if_neg (by omega), if_pos (by trivial)]
        exact xD hb (hq.rel h2.rel)
      · rename_i e'
        obtain ⟨cur', k1, k2⟩ := k0.box e bx he
        refine ⟨cur', k1, ?_⟩
        simp only [lb]
        rw [if_neg (by omega), if_neg (by omega)]
        exact k2
    bxb := fun e bx he => by
      have : ∃ z, (σ.set G none).b e = some z := by
        rw [St.set_b, St.setB_b] at he
        split at he
        · rename_i e'; subst e'; exact ⟨_, hd⟩
        · exact ⟨_, he⟩
      obtain ⟨z, hz⟩ := this
      obtain ⟨g1, g2, g3⟩ := k0.bxb e z hz
      exact ⟨g1, g2, fun r hr => by obtain ⟨r', h'⟩ := hsub r _ hr; exact g3 r' h'⟩
    inj := fun e e' c1 c2 he he' => by
      have f : ∀ x y, ((σ.setB d (some (t, jn cur.toList qs))).set G (some (RV.gh cur.toList cs))).b x = some y → ∃ z, (σ.set G none).b x = some z := by
        intro x y hx
        rw [St.set_b, St.setB_b] at hx
        split at hx
        · rename_i e'; subst e'; exact ⟨_, hd⟩
        · exact ⟨_, hx⟩
      obtain ⟨z1, f1⟩ := f _ _ he
      obtain ⟨z2, f2⟩ := f _ _ he'
      exact k0.inj e e' z1 z2 f1 f2
    dis := Vi k0.dis
    nod := Vj k0.nod
    low := fun r b hb => by obtain ⟨r', h'⟩ := hsub r b hb; exact k0.low r' b h' }
def Vu {d t G e : Nat} {α : Type} {f g : α → List PV} {fN : α × (Nat → Value) → List PV} {xs : List α} {jk : List Value} (hd : σ.b d = some (t, bE f xs jk)) (hG : σ.s G = none) (hN : ∀ x h, fN (x, h) = eb h 0 (g x)) (hg : ∀ x, (g x).length = e) (hq : ∀ x, ao (f x) (g x)) (hb : ∀ x, aj (g x))
    (h : ∀ zs : List (α × (Nat → Value)), zs.map Prod.fst = xs → SW P n h0 w0 Fz0 c ((σ.setB d (some (t, bE fN zs jk))).set G (some (RV.gh (bm e zs) (bK f zs)))) Q) : SW P n h0 w0 Fz0 c σ Q := by
  refine uN hd hG (HV hq xs) (Vs hb xs jk) fun us hus => ?_
  intro a w hc
  have hfl : ∀ x, (f x).length = e := fun x => by rw [(hq x).len]; exact hg x
  have hlen : us.length = xs.length * e + (jk.map PV.val).length := by
    obtain ⟨_, _, hr⟩ := hus
    rw [hr.len]; unfold bE
    rw [aM, rZ (e := e) (fun cs hcs => by obtain ⟨x, _, rfl⟩ := List.mem_map.1 hcs; exact hfl x), aw]
  obtain ⟨zs, vs, e1, e2, e3, e4⟩ := HU hN hg (jk.map PV.val) xs us hlen
  have hvl : (bm e zs).length = (bK f zs).length := by
    unfold bm bK
    rw [rZ (e := e) (fun cs hcs => by obtain ⟨x, _, rfl⟩ := List.mem_map.1 hcs; exact hfl x.1)]
    have : ∀ l : List (α × (Nat → Value)), (l.map fun z => (List.range e).map z.2).flatten.length = l.length * e := by
      intro l; induction l with
      | nil => simp
      | cons z l ih => rw [List.map_cons, List.flatten_cons, aM, ih, List.length_cons, Nat.succ_mul]; simp; omega
    rw [this, aw]
  have hfm : bK f zs = (xs.map f).flatten := by unfold bK; rw [← e1, List.map_map]; rfl
  refine h zs e1 a w ?_
  obtain ⟨φ, Fz, Fp, hc⟩ := hc
  refine ⟨φ, Fz, Fp, { hc with slot := fun i rv hi => ?_, box := fun b bx hb' => ?_, bxb := fun b bx hb' => ?_, inj := fun b b' c1 c2 hb1 hb2 => ?_ }⟩
  · rw [St.set_s] at hi
    split at hi
    · rename_i hiG
      injection hi with hi
      subst hi
      have := hc.slot i _ (by rw [St.set_s, if_pos hiG])
      have this : aL (bE f xs jk) Fz w us (Fp (2 * i + 1)) := this
      unfold bE at this
      rw [e2] at this
      obtain ⟨v1, v2, F1, F2, k1, k2, k3, k4⟩ := this.split
      have hF2 : F2 = [] := by
        have : ∀ (jk : List Value) (v2 : List Value) (G2 : List Nat), aL (jk.map PV.val) Fz w v2 G2 → G2 = [] := by
          intro jk
          induction jk with
          | nil => intro v2 G2 h; exact h.2
          | cons j jk ih =>
            intro v2 G2 h
            obtain ⟨v, vs', F1, F2, _, rfl, h1, h2⟩ := h
            rw [ih _ _ h2, h1.2]; rfl
        exact this _ _ _ k4
      obtain ⟨rfl, rfl⟩ := List.append_inj k1 (by rw [hvl, k3.len, hfm])
      show aL (bK f zs) Fz w (bm e zs) (Fp (2 * i + 1))
      rw [k2, hF2, dP, hfm]; exact k3
    · rename_i hiG
      exact hc.slot i rv (by rw [St.set_s, if_neg hiG]; exact hi)
  · rw [St.set_b, St.setB_b] at hb'
    split at hb'
    · rename_i hbd
      injection hb' with hb'
      subst hb'
      obtain ⟨cur, k1, k2⟩ := hc.box b (t, jn us ((xs.map g).flatten ++ jk.map PV.val)) (by rw [St.set_b, St.setB_b, if_pos hbd])
      refine ⟨cur, k1, ?_⟩
      have k2 : aL (jn us ((xs.map g).flatten ++ jk.map PV.val)) Fz w cur.toList (Fp (2 * b + 2)) := k2
      rw [e4] at k2
      obtain ⟨v1, v2, F1, F2, q1, q2, q3, q4⟩ := k2.split
      rw [q1, q2]
      exact q3.append (HW q4 (by rw [e3, aw]))
    · rename_i hbd
      exact hc.box b bx (by rw [St.set_b, St.setB_b, if_neg hbd]; exact hb')
  · have : ∃ z, ((σ.setB d (some (t, jn us ((xs.map g).flatten ++ jk.map PV.val)))).set G (some (RV.gh us (bE f xs jk)))).b b = some z := by
      rw [St.set_b, St.setB_b] at hb' ⊢
      split at hb'
      · rename_i hbd; rw [if_pos hbd]; exact ⟨_, rfl⟩
      · rename_i hbd; rw [if_neg hbd]; exact ⟨_, hb'⟩
    obtain ⟨z, hz⟩ := this
    exact hc.bxb b z hz
  · have : ∀ x y, ((σ.setB d (some (t, bE fN zs jk))).set G (some (RV.gh (bm e zs) (bK f zs)))).b x = some y → ∃ z, ((σ.setB d (some (t, jn us ((xs.map g).flatten ++ jk.map PV.val)))).set G (some (RV.gh us (bE f xs jk)))).b x = some z := by
      intro x y hx
      rw [St.set_b, St.setB_b] at hx ⊢
      split at hx
      · rename_i hbd; rw [if_pos hbd]; exact ⟨_, rfl⟩
      · rename_i hbd; rw [if_neg hbd]; exact ⟨_, hx⟩
    obtain ⟨z1, f1⟩ := this _ _ hb1
    obtain ⟨z2, f2⟩ := this _ _ hb2
    exact hc.inj b b' z1 z2 f1 f2
def Bz {α : Type} {g : α → List PV} {fN : α × (Nat → Value) → List PV} {e : Nat} (hN : ∀ x h, fN (x, h) = eb h 0 (g x)) (hg : ∀ x, (g x).length = e) {Fz : ay} {w : World} : ∀ {zs : List (α × (Nat → Value))} {js : List PV} {us : List Value}, bS ((zs.map fN).flatten ++ js) Fz w us → ∃ vs, us = bm e zs ++ vs ∧ bS js Fz w vs
  | [], js, us, h => ⟨us, rfl, h⟩
  | z :: zs, js, us, h => by
    have hk : ∀ (ps : List PV) (i : Nat) (k : Nat → Value) (vs : List Value), bS (eb k i ps) Fz w vs → vs = (List.range' i ps.length).map k := by
      intro ps
      induction ps with
      | nil => intro i k vs h; exact h
      | cons p ps ih =>
        intro i k vs h
        obtain ⟨v, vs', rfl, h1, h2⟩ := h
        rw [ih _ _ _ h2, h1.1]; rfl
    simp only [List.map_cons, List.flatten_cons, bu] at h
    obtain ⟨v1, v2, rfl, h1, h2⟩ := h.split
    obtain ⟨vs, rfl, h3⟩ := Bz hN hg h2
    obtain ⟨x, k⟩ := z
    rw [hN] at h1
    have := hk _ _ _ _ h1
    rw [hg] at this
    refine ⟨vs, ?_, h3⟩
    rw [this]
    simp [bm, List.range_eq_range']
def BA {T T2 : TypeId} {x y : Operand} {d : Nat} {ty : TypeId} {pos : String} {af : Array Edge} {g : Option (Nat × Bool)} {k k2 : IntKind} {i j : Int} {m : Nat} (hm : j = (m : Int)) (hb : m ≤ k.bits) (hx : bN x (RV.sc (.int k i)) := by first | exact True.intro | exact bM rfl) (hy : bN y (RV.sc (.int k2 j)) := by first | exact True.intro | exact bM rfl) (hd : d < n := by decide) :
    Loc P n ⟨some d, .binOp .shr T x y T2, ty, pos, af, g⟩ ⟨bA x (RV.sc (.int k i)) ++ bA y (RV.sc (.int k2 j)), [], [(d, some (RV.sc (.int k (i.fdiv (2 ^ m)))))], [], none⟩ := by
  subst hm
  refine ir hd hx hy rfl fun w => ?_
  have h1 : ¬ (m : Int) < 0 := by omega
  simp [eqGuard, binOp, Op.shift, h1, Nat.min_eq_left hb]
end
end
def aN.view {P : Program} {f : FuncId} {args : List (Bool × List PV)} {ag : Bool} {cs qs : List PV} (ht : ao cs qs) (hb : aj qs) (h : aN P f args (RV.sv ag cs)) : aN P f args (RV.sv ag qs) := fun w vs Fz hz hr => by
  refine (h w vs Fz hz hr).mono ?_
  rintro e w' ⟨v, Fz', F, e1, hb1, h1, h2, hv, hn, hF⟩
  exact ⟨v, Fz', [], e1, hb1, h1, h2, fun φ => Cp.sv ht hb (hv φ), List.nodup_nil, fun b hb => nomatch hb⟩
section
def nY (L : Nat → Prop) (r r' : RV) : Prop := ∀ {φ : Nat → Nat} {Fz : ay} {w : World} {v : Value} {F : List Nat}, (∀ b o, Fz b o → L b) → r.holds φ Fz w v F → r'.holds φ Fz w v []
def nY.sv {L : Nat → Prop} {ag : Bool} {cs qs : List PV} (ht : ae L cs qs) (hb : aj qs) : nY L (RV.sv ag cs) (RV.sv ag qs) := fun hz h => ⟨h.1, hb.own (ht.rel hz h.2.rel)⟩
def nY.ptr {L : Nat → Prop} {d off : Nat} : nY L (RV.ptr d off) (RV.ptr d off) := fun _ h => ⟨h.1, rfl⟩
def qm (L : Nat → Prop) : List (Nat × RV) → List (Nat × RV) → Prop
  | [], [] => True
  | p :: l, q :: l' => (p.1 = q.1 ∧ nY L p.2 q.2) ∧ qm L l l'
  | _, _ => False
def qm.cons {L : Nat → Prop} {i : Nat} {r r' : RV} {l l' : List (Nat × RV)} (h : nY L r r') (k : qm L l l') : qm L ((i, r) :: l) ((i, r') :: l') := ⟨⟨rfl, h⟩, k⟩
def qm.at_ {L : Nat → Prop} {i : Nat} {r' : RV} : ∀ {l l' : List (Nat × RV)}, qm L l l' → lk l' i = some r' → ∃ r, lk l i = some r ∧ nY L r r'
  | [], [], _, h => by cases h
  | (j, r) :: l, (j', q) :: l', k, h => by
    obtain ⟨⟨e, k1⟩, k2⟩ := k
    dsimp only at e
    subst e
    rw [lk, beq_eq] at h ⊢
    by_cases hx : i = j
    · rw [decide_eq_true hx] at h ⊢
      simp only [cond_true, Option.some.injEq] at h ⊢
      subst h
      exact ⟨r, rfl, k1⟩
    · rw [decide_eq_false hx] at h ⊢
      simp only [cond_false] at h ⊢
      exact qm.at_ k2 h
section
variable {P : Program} {n : Nat} {h0 : Nat → Prop} {w0 : World} {Fz0 : ay} {Q : Exit → St → Prop} {c : Code}
end
end
section
section
variable {P : Program} {n : Nat} {h0 : Nat → Prop} {w0 : World} {Fz0 : ay}
section
variable {σ : St} {a : Act} {w : World} {φ : Nat → Nat} {Fz : ay} {Fp : Nat → List Nat}
def bD.ghost (h : bD h0 w0 Fz0 n σ a w φ Fz Fp) {i : Nat} {rv : RV} {F X : List Nat} (hv : rv.holds φ Fz w (a.tmps.getD i undef) F) (hX : ∀ b, b ∈ F ++ X → b ∈ Fp 0) (hn : (F ++ X).Nodup) :
    bD h0 w0 Fz0 n (σ.set i (some rv)) a w φ Fz (cS Fp (2 * i + 1) F X) where
  bel := h.bel
  dfr := h.dfr
  siz := h.siz
  hlt := h.hlt
  fz0 := h.fz0
  fzl := h.fzl
  slot j rv' hj := by
    rw [St.set_s] at hj
    split at hj
    · rename_i hji
      subst hji
      injection hj with hj
      subst hj
      unfold cS
      rw [if_pos rfl]; exact hv
    · rename_i hne
      unfold cS
      rw [if_neg (by omega), if_neg (by omega)]
      exact h.slot j rv' hj
  box d cs hd := by
    obtain ⟨cur, h1, h2⟩ := h.box d cs hd
    refine ⟨cur, h1, ?_⟩
    unfold cS
    rw [if_neg (by omega), if_neg (by omega)]; exact h2
  bxb d cs hd := by
    obtain ⟨h1, h2, h3⟩ := h.bxb d cs hd
    refine ⟨h1, h2, fun r hr => ?_⟩
    rcases mn hr with ⟨_, hr⟩ | ⟨_, _, hr⟩ | ⟨_, _, hr⟩
    · exact h3 0 (hX _ (by simp [hr]))
    · exact h3 0 (hX _ (by simp [hr]))
    · exact h3 _ hr
  inj d d' cs cs' := h.inj d d' cs cs'
  dis := xd (by omega) hX hn h.dis
  nod := xe hn h.nod
  low r b hb := by
    rcases mn hb with ⟨_, hr⟩ | ⟨_, _, hr⟩ | ⟨_, _, hr⟩
    · exact h.low 0 b (hX _ (by simp [hr]))
    · exact h.low 0 b (hX _ (by simp [hr]))
    · exact h.low _ b hr
end
section
variable {ops : Array Oper} {Q : Exit → St → Prop}
end
def qn (r r' : RV) : Prop := ∀ {φ : Nat → Nat} {Fz : ay} {w : World} {v : Value} {F : List Nat}, r.holds φ Fz w v F → r'.holds φ Fz w v F
def qn.refl {r : RV} : qn r r := fun h => h
def qn.sv {ag : Bool} {cs qs : List PV} (h : iv cs qs) : qn (RV.sv ag cs) (RV.sv ag qs) := fun hh => ⟨hh.1, h hh.2⟩
def qo (f : Nat → Option RV) (G : Nat) : List (Nat × RV) → Prop
  | [] => True
  | p :: l' => (Nat.beq p.1 G = false ∧ ∃ r, f p.1 = some r ∧ qn r p.2) ∧ qo f G l'
def qo.cons {f : Nat → Option RV} {G i : Nat} {r r' : RV} {l' : List (Nat × RV)} (h1 : Nat.beq i G = false) (h2 : f i = some r) (h3 : qn r r') (k : qo f G l') : qo f G ((i, r') :: l') := ⟨⟨h1, r, h2, h3⟩, k⟩
def qo.at_ {f : Nat → Option RV} {G i : Nat} {r' : RV} : ∀ {l' : List (Nat × RV)}, qo f G l' → (i, r') ∈ l' → i ≠ G ∧ ∃ r, f i = some r ∧ qn r r'
  | [], _, h => by simp at h
  | p :: l', k, h => by
    rcases List.mem_cons.1 h with rfl | h
    · exact ⟨fun e => by have := k.1.1; dsimp only at this; rw [e] at this; simp at this, k.1.2⟩
    · exact qo.at_ k.2 h
variable {Q : Exit → St → Prop} {c : Code}
def BB {σ : St} {s : Nat} {ag : Bool} {cs : List PV} (qs : List PV) (hs : σ.s s = some (RV.sv ag cs)) (ht : ao cs qs) (hb : aj qs) (h : SW P n h0 w0 Fz0 c (σ.set s (some (RV.sv ag qs))) Q) : SW P n h0 w0 Fz0 c σ Q := fun a w hc => by
  obtain ⟨φ, Fz, Fp, hc⟩ := hc
  have hv : ct ag cs Fz w (a.tmps.getD s undef) (Fp (2 * s + 1)) := hc.slot s _ hs
  have c1 := (hc.pull s).reslot (s := s) (rv := RV.sv ag qs) (by
    have : mv Fp (2 * s + 1) (2 * s + 1) = [] := by simp [mv]
    rw [this]
    exact ⟨hv.1, hb.own (ht.rel hv.2.rel)⟩)
  exact h a w (bo.eqv ⟨φ, Fz, _, c1⟩ (fun i => by
    simp only [St.set_s]
    split <;> rfl) (fun d => rfl))
def qp (L : Nat → Prop) : List (Nat × (Nat × List PV)) → List (Nat × (Nat × List PV)) → Prop
  | [], [] => True
  | p :: b, q :: b' => (p.1 = q.1 ∧ p.2.1 = q.2.1 ∧ ae L p.2.2 q.2.2 ∧ aj q.2.2) ∧ qp L b b'
  | _, _ => False
def qp.cons {L : Nat → Prop} {d t : Nat} {cs qs : List PV} {b b' : List (Nat × (Nat × List PV))} (h1 : ae L cs qs) (h2 : aj qs) (k : qp L b b') : qp L ((d, (t, cs)) :: b) ((d, (t, qs)) :: b') := ⟨⟨rfl, rfl, h1, h2⟩, k⟩
def qp.at_ {L : Nat → Prop} {d t : Nat} {qs : List PV} : ∀ {b b' : List (Nat × (Nat × List PV))}, qp L b b' → lk b' d = some (t, qs) → ∃ cs, lk b d = some (t, cs) ∧ ae L cs qs ∧ aj qs
  | [], [], _, h => by cases h
  | (j, (s, r)) :: l, (j', (s', q)) :: l', k, h => by
    obtain ⟨⟨e, e2, k1⟩, k2⟩ := k
    dsimp only at e e2 k1
    subst e e2
    rw [lk, beq_eq] at h ⊢
    by_cases hx : d = j
    · rw [decide_eq_true hx] at h ⊢
      simp only [cond_true, Option.some.injEq, Prod.mk.injEq] at h ⊢
      obtain ⟨rfl, rfl⟩ := h
      exact ⟨r, ⟨rfl, rfl⟩, k1⟩
    · rw [decide_eq_false hx] at h ⊢
      simp only [cond_false] at h ⊢
      exact qp.at_ k2 h
end
end
section
def BC (P : Program) (f : FuncId) (t : Nat) (args : List (Bool × List PV)) (cs : List PV) : Prop :=
  ∀ (w : World) (vs : List Value) (Fz : ay), (∀ b o, Fz b o → b < w.heap.size) → eV args Fz w vs → Calls P f vs.toArray w fun e w' => ∃ g Fz' cur, e = .returned (.pointer (some ⟨g, 0, none⟩)) ∧ Below w.heap.size w w' ∧
    (∀ b o, b < w.heap.size → (Fz' b o ↔ Fz b o)) ∧ (∀ b o, Fz' b o → b < w'.heap.size) ∧ w.heap.size ≤ g ∧ w'.heap[g]? = some (.cells cur t (0, 0)) ∧ (∀ o, ¬ Fz' g o) ∧ aL cs Fz' w' cur.toList []
def BD (rs t : Nat) (cs : List PV) (τ : St) : Prop := ∃ D, τ.s rs = some (RV.ptr D 0) ∧ τ.b D = some (t, cs)
def Vv (rs t : Nat) (cs : List PV) : Exit → St → Prop
  | .normal, τ => BD rs t cs τ
  | .ret, τ => BD rs t cs τ
  | _, _ => False
section
variable {P : Program} {n : Nat} {h0 : Nat → Prop} {w0 : World} {Fz0 : ay}
def Vw {f : FuncId} {fn : Func} {c : Code} {args : List (Bool × List PV)} {rs t : Nat} {cs : List PV} (hf : P.funcs[f]? = some fn) (hb : fn.body = some c) (hres0 : fn.results.toList = [.tmp rs]) (hn : args.length ≤ fn.ntmps) (hbor : ∀ q, q ∈ args → aj q.2) (hbc : aj cs)
    (h : ∀ (h0 : Nat → Prop) (w0 : World) (Fz0 : ay), SW P fn.ntmps h0 w0 Fz0 c (St.of (iu 0 args) []) (Vv rs t cs)) : BC P f t args cs := by
  intro w vs Fz hz hrel
  have hvl := hrel.len
  refine calls_of_wp hf hb ?_
  have hc : bo (fun b => b < w.heap.size) w Fz fn.ntmps (St.of (iu 0 args) []) { tmps := vs.toArray ++ Array.replicate (fn.ntmps - vs.toArray.size) undef, defers := [] } w := by
    refine ⟨fun _ => 0, Fz, fun _ => [], ⟨mm.refl _ _, rfl, by simp; omega, fun _ hb => hb, fun _ _ _ => Iff.rfl, hz, fun i rv hi => ?_, fun d cs hd => (by cases hd), fun d cs hd => (by cases hd), fun d d' cs cs' hd => (by cases hd), fun _ _ _ b hb => (by simp at hb), fun _ => List.nodup_nil, fun _ b hb => (by simp at hb)⟩⟩
    obtain ⟨j, v, e1, e2, e3, e4⟩ := BorT.own (φ := fun _ => 0) hbor hrel hi
    rw [Nat.zero_add] at e1
    subst e1
    have : (vs.toArray ++ Array.replicate (fn.ntmps - vs.toArray.size) undef).getD i undef = v := by
      rw [Array.getD_eq_getD_getElem?, Array.getElem?_append_left (by simpa using e2)]
      simp [e3]
    rw [this]; exact e4
  refine wp_mono (h _ w Fz _ w hc) fun e a' w' ⟨τ, hq, hc'⟩ => ?_
  obtain ⟨φ, Fz', Fp, hc'⟩ := hc'
  have hres : BD rs t cs τ → a'.defers = [] ∧ ∃ v, (results fn a'.tmps).run P w' = .ok v w' ∧ ∃ g Fz' cur, Ending.returned v = .returned (.pointer (some ⟨g, 0, none⟩)) ∧ Below w.heap.size w w' ∧
      (∀ b o, b < w.heap.size → (Fz' b o ↔ Fz b o)) ∧ (∀ b o, Fz' b o → b < w'.heap.size) ∧ w.heap.size ≤ g ∧ w'.heap[g]? = some (.cells cur t (0, 0)) ∧ (∀ o, ¬ Fz' g o) ∧ aL cs Fz' w' cur.toList [] := by
    rintro ⟨D, k1, k2⟩
    have hp := (hc'.slot rs _ k1).1
    obtain ⟨cur, q1, q2⟩ := hc'.box D _ k2
    obtain ⟨m1, m2, m3⟩ := hc'.bxb D _ k2
    refine ⟨hc'.dfr, ?_⟩
    rw [Bg]
    have erun : Sem.run P (fn.results.mapM (nU a'.tmps)) w' = .ok #[.pointer (some ⟨φ D, 0, none⟩)] w' := by
      rw [Array.mapM_eq_mapM_toList, hres0]
      simp only [map_eq_pure_bind, List.mapM_cons, List.mapM_nil, nU, Sem.run_bind, Sem.run_pure, Result.andThen_ok, hp]
    simp only [Sem.run_bind, erun, Result.andThen_ok, Sem.run_pure]
    exact ⟨_, rfl, φ D, Fz', cur, rfl, ⟨hc'.bel.os, hc'.bel.tape, hc'.bel.output, hc'.bel.size, hc'.bel.block⟩, hc'.fz0, hc'.fzl, Nat.le_of_not_lt m1, q1, m2, hbc.own q2.rel⟩
  cases e with
  | normal => exact hres hq
  | ret => exact hres hq
  | _ => exact hq.elim
def Vx {f d t : Nat} {args : Array Operand} {tys : Array TypeId} {ty : TypeId} {pos : String} {af : Array Edge} {g : Option (Nat × Bool)} {qs as_ : List (Bool × List PV)} {cs : List PV} (hd : d < n) (hf : aH P f = true) (hok : lH args.toList qs) (hto : lI qs as_) (hs : BC P f t as_ cs) :
    Loc P n ⟨some d, .call { callee := .value (.func f), args := args, argTypes := tys }, ty, pos, af, g⟩ ⟨jJ args.toList qs, [], [(d, some (RV.ptr d 0))], [(d, some (t, cs))], some d⟩ := by
  intro h0 w0 Fz0 σ a w K Q hc hr _ h4 h5
  obtain ⟨φ, Fz, Fp, hc⟩ := hc
  have hrel := hto.rel (hc.relT hr hok)
  unfold Oper.wp
  rw [HR hf, Oper.upon_enter]
  refine (hs w _ Fz hc.fzl hrel).mono ?_
  rintro e w' ⟨G, Fz', cur, rfl, hbl, hz1, hz2, hG, hg, hgz, ho⟩
  refine h5 _ _ ?_
  have hglt : G < w'.heap.size := (Array.getElem?_eq_some_iff.1 hg).1
  have k := (hc.drop d).world (w' := w') (Fz' := Fz') (X := [G]) hbl.os hbl.tape hbl.output hbl.size (fun b hb' _ => ⟨hbl.block b hb', fun o ho => (hz1 b o hb').1 ho⟩)
    (fun b o ho => ⟨(hz1 b o (hc.fzl b o ho)).2 ho, World.cell?_of_block (hbl.block b (hc.fzl b o ho))⟩) hz2 (fun b hb' => .inr (by
      rw [List.mem_singleton] at hb'; subst hb'; exact ⟨hG, hglt⟩)) (by simp)
  have k2 := k.pushB (d := d) (g := G) (t := t) (cs := cs) (F := []) (X := []) (by rw [St.setB_b, if_pos rfl]) hg ho hgz (fun b hb => by simpa using hb) (by simp) (.inr (h4 d rfl))
  have k3 := k2.push (i := d) (rv := RV.ptr d 0) (v := .pointer (some ⟨G, 0, none⟩)) (F := []) (X := []) hd ⟨by simp, rfl⟩ (fun b hb => nomatch hb) (by simp)
  exact bo.eqv ⟨_, _, _, k3⟩ (fun i => rfl) (fun e => by
    show bL [(d, some (t, cs))] σ.b e = _
    rw [St.set_b, St.setB_b, St.setB_b]
    simp only [bL, beq_eq]
    by_cases he : e = d <;> simp [he])
end
def iP {P : Program} {n x d b off : Nat} {ty : TypeId} {pos : String} {af : Array Edge} {g : Option (Nat × Bool)} (hd : d < n) : Loc P n ⟨some d, .nilCheck (.tmp x), ty, pos, af, g⟩ ⟨[(x, RV.ptr b off)], [], [(d, some (RV.ptr b off))], [], none⟩ := by
  intro h0 w0 Fz0 σ a w K Q h1 h2 _ _ h5
  obtain ⟨φ, Fz, Fp, hc⟩ := h1
  have ex := (hc.slot x _ h2.1).1
  refine ek (v := .pointer (some ⟨φ b, off, none⟩)) (w' := w) ?_ (h5 _ _ (hc.put0 hd (r := RV.ptr b off) ⟨rfl, rfl⟩))
  unfold execOp
  simp only [Act.eval, ex, Sem.run_pure]
def nY.phi {L : Nat → Prop} {D g : Nat} : nY L (RV.phi D g) (RV.phi D g) := fun _ h => ⟨h.1, rfl⟩
section
variable {P : Program} {n : Nat} {h0 : Nat → Prop} {w0 : World} {Fz0 : ay} {σ : St} {Q : Exit → St → Prop} {c : Code}
end
def xF (x y : Int) : Int := IntKind.i64.wrap (x * y)
def qr (x y : Int) : Int := IntKind.i64.wrap (x + y)
def ni (x y : Int) : Int := IntKind.i64.wrap (BitVec.ofInt 64 x &&& BitVec.ofInt 64 y).toNat
def BE (x y : Int) : Int := IntKind.i64.wrap (BitVec.ofInt 64 x ^^^ BitVec.ofInt 64 y).toNat
def HX {x : Int} {m : Nat} (hm : m < 2 ^ 62) : 0 ≤ ni x (m : Int) ∧ ni x (m : Int) ≤ m := by
  have e : (BitVec.ofInt 64 (m : Int)).toNat = m := by
    rw [BitVec.toNat_ofInt]
    omega
  have h : (BitVec.ofInt 64 x &&& BitVec.ofInt 64 (m : Int)).toNat ≤ m := by
    rw [BitVec.toNat_and, e]; exact Nat.and_le_right
  unfold ni
  rw [IntWalk.i64_in _ (by omega)]
  omega
section
variable {P : Program} {n : Nat} {T T2 : TypeId} {x y : Operand} {d : Nat} {ty : TypeId} {pos : String} {af : Array Edge} {g : Option (Nat × Bool)} {i j : Int}
def HY (hd : d < n) (hx : bN x (RV.int i)) (hy : bN y (RV.int j)) : Loc P n ⟨some d, .binOp .mul T x y T2, ty, pos, af, g⟩ ⟨bA x (RV.int i) ++ bA y (RV.int j), [], [(d, some (RV.int (xF i j)))], [], none⟩ :=
  ir hd hx hy rfl fun w => by simp [eqGuard, binOp, Op.intArith, xF]
def xG (hd : d < n) (hx : bN x (RV.int i)) (hy : bN y (RV.int j)) : Loc P n ⟨some d, .binOp .add T x y T2, ty, pos, af, g⟩ ⟨bA x (RV.int i) ++ bA y (RV.int j), [], [(d, some (RV.int (qr i j)))], [], none⟩ :=
  ir hd hx hy rfl fun w => by simp [eqGuard, binOp, Op.intArith, qr]
def xH (hd : d < n) (hx : bN x (RV.int i)) (hy : bN y (RV.int j)) : Loc P n ⟨some d, .binOp .and T x y T2, ty, pos, af, g⟩ ⟨bA x (RV.int i) ++ bA y (RV.int j), [], [(d, some (RV.int (ni i j)))], [], none⟩ :=
  ir hd hx hy rfl fun w => by simp [eqGuard, binOp, Op.intBits, IntKind.bits]; unfold ni; rw [BitVec.toNat_and, BitVec.toNat_ofInt, BitVec.toNat_ofInt]; rfl
def Vy (hd : d < n) (hx : bN x (RV.int i)) (hy : bN y (RV.int j)) : Loc P n ⟨some d, .binOp .xor T x y T2, ty, pos, af, g⟩ ⟨bA x (RV.int i) ++ bA y (RV.int j), [], [(d, some (RV.int (BE i j)))], [], none⟩ :=
  ir hd hx hy rfl fun w => by simp [eqGuard, binOp, Op.intBits, IntKind.bits]; unfold BE; rw [BitVec.toNat_xor, BitVec.toNat_ofInt, BitVec.toNat_ofInt]; rfl
end
end
section
abbrev HZ := List UInt8
abbrev B (l : HZ) : ByteArray := ⟨l.toArray⟩
section
variable {P : Program} {n : Nat} {T T2 : TypeId} {x y : Operand} {d : Nat} {ty : TypeId} {pos : String} {af : Array Edge} {g : Option (Nat × Bool)} {s t : HZ}
def Ia {i j : Int} (hx : bN x (RV.int i) := by first | exact True.intro | exact bM rfl) (hy : bN y (RV.int j) := by first | exact True.intro | exact bM rfl) (hj : j ≠ 0 := by omega) (h : jI (i.tdiv j) := by unfold jI; omega) (hd : d < n := by decide) : Loc P n ⟨some d, .binOp .quo T x y T2, ty, pos, af, g⟩ ⟨bA x (RV.int i) ++ bA y (RV.int j), [], [(d, some (RV.int (i.tdiv j)))], [], none⟩ :=
  ir hd hx hy rfl fun w => by
    have e : IntKind.i64.wrap (i.tdiv j) = i.tdiv j := IntWalk.i64_in _ h
    simp [eqGuard, binOp, Op.intDiv, hj, e]
end
structure uO where
  rel : ay → World → Prop
  mono : ∀ {Fz Fz' : ay} {w w' : World}, rel Fz w → fQ Fz w Fz' w' → rel Fz' w'
def Vz (P : Program) (G : uO) (f : FuncId) (args : List (Bool × List PV)) (r : RV) : Prop :=
  ∀ (w : World) (vs : List Value) (Fz : ay), (∀ b o, Fz b o → b < w.heap.size) → G.rel Fz w → eV args Fz w vs → Calls P f vs.toArray w fun e w' => ∃ v Fz' F, e = .returned v ∧ Below w.heap.size w w' ∧
    (∀ b o, b < w.heap.size → (Fz' b o ↔ Fz b o)) ∧ (∀ b o, Fz' b o → b < w'.heap.size) ∧ (∀ φ, r.holds φ Fz' w' v F) ∧ F.Nodup ∧ ∀ b, b ∈ F → w.heap.size ≤ b ∧ b < w'.heap.size
def aN.g {P : Program} {G : uO} {f : FuncId} {args : List (Bool × List PV)} {r : RV} (h : aN P f args r) : Vz P G f args r := fun w vs Fz hz _ hr => h w vs Fz hz hr
section
variable {P : Program} {n : Nat} {G : uO}
end
section
variable {P : Program} {G : uO} {f : FuncId}
def rV.sc {v x : Value} {Fz : ay} {w : World} (h : rV false [PV.val x] Fz w v) : v = x := (ct.sc ⟨h.1, (aj.cons (PV.bor_val _) aj.nil).own h.2⟩).1
def rV.sl {v : Value} {es : List (List PV)} {Fz : ay} {w : World} (h : rV false [PV.sl .v es] Fz w v) : mY es Fz w v :=
  (ct.atom (p := PV.sl .v es) ⟨h.1, (aj.cons (PV.bor_sl _) aj.nil).own h.2⟩).1
end
end
end Go.Proofs.YtmekkgdboplbjaaGreat.M
namespace Go.Proofs.YtmekkgdboplbjaaGreat.M
open Go Go.RowKit Go.ChangeShapes Go.WideShapes
section
section
variable {H : Type} {enc : TypeId × Value → H} {P : Program} {W W' : World}
def Ib {sp : Nat → Bool} (hl : laidOutB P = true) (hsame : ∀ p : MemPlace, p.block < W.heap.size → W.sameAt W' p) : ∀ {ts : List TypeId} {vs : List Value} {ds : List (DataW H)} {ps : List MemPlace}, (ts.all fun t => P.readableRec t && Nat.blt t P.types.size) = true →
    DataW.TrodAll enc P W 0 (fun _ => true) true ts vs ds ps → (∀ p ∈ ps, p.block < W.heap.size) → (∀ p ∈ ps, sp p.block = true) → DataW.TrodAll enc P W' 0 sp true ts vs ds ps
  | [], vs, ds, ps, _, h, _, _ => by
    obtain ⟨rfl, rfl, rfl⟩ := trodAll_nil h
    exact trodAll_mk0
  | t :: ts, vs, ds, ps, ht, h, hlt, hs => by
    obtain ⟨v, vs', d, ds', p, q, rfl, rfl, rfl, h1, h2⟩ := trodAll_cons h
    rw [List.all_cons, aS, aS, Nat.blt_eq] at ht
    exact trodAll_cons_mk (WideElems.Trod_stays hl ht.1.1 ht.1.2 h1 (fun x hx => hsame x (hlt x (by simp [hx]))) (fun x hx => hs x (by simp [hx])))
      (Ib hl hsame ht.2 h2 (fun x hx => hlt x (by simp [hx])) (fun x hx => hs x (by simp [hx])))
def VA {f : Func} {s : ChangeSpec} {args : Array Value} {ds gs : List (DataW H)} {before : List MemPlace} {k : FuncId} {bt : TypeId} (hl : laidOutB P = true) (hr : (f.params.toList.all fun t => P.readableRec t && Nat.blt t P.types.size) = true)
    (hW : DataW.Whole enc P f.params.toList s.vars false W args.toList ds gs before) (hv : s.vars = []) (hrt : f.resultTypes = #[bt]) (hbt : P.underlying bt = some .bool) (hfn : s.fn H (ds ++ gs) = { results := [.lit (.bool true)], args := ds })
    (hcall : Calls P k args W fun e w' => e = .returned (.bool true) ∧ Below W.heap.size W w') :
    Calls P k args W fun e W' => ∃ v, e = .returned v ∧ s.post enc P f false true false false W args v W' := by
  refine hcall.mono fun e W' ⟨he, hb⟩ => ⟨_, he, ?_⟩
  have hlt : ∀ p ∈ before, p.block < W.heap.size := fun p hp => hW.lt p hp
  have hW' := hW
  obtain ⟨pa, q, hA, hV, rfl, hz, hn⟩ := hW
  rw [hv] at hV
  obtain ⟨rfl, rfl⟩ := trodVars_none hV
  have hres : ∀ (b : Nat) (sp : Nat → Bool) (hd : Bool), DataW.TrodAll enc P W' b sp hd f.resultTypes.toList ((Value.bool true).resultList f.resultTypes.size) (s.fn H (ds ++ [])).results [] := by
    intro b sp hd
    rw [hfn, hrt]
    exact trodAll_cons_mk (p' := []) (shut_bool hbt _) trodAll_mk0
  have hargs : ∀ sp : Nat → Bool, (∀ p ∈ pa ++ [], sp p.block = true) → DataW.TrodAll enc P W' 0 sp true f.params.toList args.toList (s.fn H (ds ++ [])).args pa := by
    intro sp hs
    rw [hfn]
    exact Ib hl (fun p hp => hb.same hp) hr hA (fun p hp => hlt p (by simp [hp])) (fun p hp => hs p (by simp [hp]))
  have hvars : ∀ sp : Nat → Bool, DataW.TrodVars enc P W' sp s.vars (s.fn H (ds ++ [])).vars [] := by
    intro sp
    rw [hfn, hv]
    exact rfl
  have hold : ∀ p ∈ pa ++ [], (fun b => decide (b < W.heap.size)) p.block = true := fun p hp => by simpa using hlt p hp
  have hok : ∀ (j : Nat) (t : TypeId) (r : Value), f.resultTypes[j]? = some t → ((Value.bool true).resultList f.resultTypes.size)[j]? = some r → Value.okWide P W' .any 0 t r := ok_one hrt rfl (okWide_bool_mk hbt _)
  refine ⟨ds, [], pa ++ [], [], pa, [], hW', hres _ _ _, hargs _ hold, hvars _, World.keptBut_mono (fun p hp => ⟨hp, ?_⟩) (hb.frame (· ∈ pa ++ [])), fun h => by cases h⟩
  simpa using hp
def uP (w : World) : ay := fun b _ => b < w.heap.size
def VB {f : FuncId} {vs : List Value} {qs : List (Bool × List PV)} (hs : aN P f qs (aJ [(false, [PV.val (.bool true)])])) (hr : eV qs (uP W) W vs) : Calls P f vs.toArray W fun e w' => e = .returned (.bool true) ∧ Below W.heap.size W w' :=
  (hs W vs (uP W) (fun _ _ h => h) hr).mono fun e w' ⟨v, Fz', F, he, hb, _, _, hv, _⟩ => ⟨by rw [he, (ct.sc (hv fun _ => 0)).1], hb⟩
def si (P : Program) (T : TypeId) {α : Type} (f : α → List PV) (g : α → Prop) : Prop :=
  ∀ {H : Type} (enc : TypeId × Value → H) (w : World) (sp : Nat → Bool) (held : Bool) (n : Nat) (cs : List Value) (x : DataW H × List MemPlace), DataW.trod enc P w 0 sp held n T cs = some x → ∃ a, bS (f a) (uP w) w cs ∧ g a
def VC {T E e : TypeId} {α : Type} {f : α → List PV} (hu : P.underlying T = some (.slice E)) (hc : P.cellsOf E = e) (he : 0 < e) {g : α → Prop} (hf : si P E f g) (hlen : ∀ a, (f a).length = e) : si P T (fun xs : List α => [PV.sl .v (xs.map f)]) fun xs => ∀ x ∈ xs, g x := by
  intro H enc w sp held n cs x hx
  subst hc
  rcases Deep.open_slice hu hx with ⟨rfl, _⟩ | ⟨a, len, cap, m, n', D, Pl, rfl, _, hlc, hcm, hm, _, hel⟩
  · exact ⟨[], ⟨_, [], rfl, ⟨⟨none, 0, 0, fun _ _ => undef, rfl, Nat.le_refl _, Nat.zero_le _, by simp, .inl rfl, by simp⟩, True.intro⟩, rfl⟩, by simp⟩
  · have hlm : len ≤ m := by rw [hm]; split <;> omega
    have key : ∀ i, i < len → ∃ (y : α × List Value), w.cells? 0 (a.add (i * P.cellsOf E)) (P.cellsOf E) = some y.2 ∧ bS (f y.1) (uP w) w y.2 ∧ g y.1 := by
      intro i hi
      obtain ⟨cs', h1, h2⟩ := hel i (by omega)
      obtain ⟨y, hy⟩ := hf enc w sp held n' cs' _ h2
      exact ⟨(y, cs'), h1, hy⟩
    by_cases hl0 : len = 0
    · subst hl0
      exact ⟨[], ⟨_, [], rfl, ⟨⟨some a, cap, 0, fun _ _ => undef, rfl, Nat.zero_le _, hcm, by simp, .inl rfl, by simp⟩, True.intro⟩, rfl⟩, by simp⟩
    · obtain ⟨y0, _, _⟩ := key 0 (by omega)
      have : Inhabited (α × List Value) := ⟨y0⟩
      obtain ⟨F, hF⟩ := Deep.choose_lt key
      obtain ⟨b, off, spt⟩ := a
      have hspt : spt = none := by
        obtain ⟨_, h2, h3⟩ := World.cells?_some (hF 0 (by omega)).1
        have h4 := h3 0 he
        rw [List.getElem?_eq_getElem (by rw [h2]; exact he), Nat.zero_mul] at h4
        cases spt with
        | none => rfl
        | some s => simp [Addr.add, World.cell?] at h4; split at h4 <;> simp at h4
      subst hspt
      have hcell : ∀ i j, i < len → j < P.cellsOf E → w.cell? ⟨b, off + (i * P.cellsOf E + j), none⟩ = some ((F i).2.getD j undef) := by
        intro i j hi hj
        obtain ⟨_, h2, h3⟩ := World.cells?_some (hF i hi).1
        have h4 := h3 j hj
        rw [mo, mo, Nat.add_assoc] at h4
        rw [h4, List.getD_eq_getElem?_getD, List.getElem?_eq_getElem (by rw [h2]; exact hj)]; rfl
      refine ⟨(List.range len).map fun i => (F i).1, ⟨_, [], rfl, ⟨⟨some ⟨b, off, none⟩, cap, P.cellsOf E, fun i j => (F i).2.getD j undef, by simp, by simpa using hlc, hcm, ?_, .inr ⟨b, off, rfl, ?_⟩, ?_⟩, True.intro⟩, rfl⟩, ?_⟩
      · intro cs hcs
        obtain ⟨y, _, rfl⟩ := List.mem_map.1 hcs
        exact hlen y
      · intro i j hi hj
        have hi' : i < len := by simpa using hi
        have h := hcell i j hi' hj
        exact ⟨World.block_lt_of_cell? w _ h, h⟩
      · intro i cs j p hi hj
        have hi' : i < len := by have := (List.getElem?_eq_some_iff.1 hi).1; simpa using this
        simp [hi'] at hi
        subst hi
        obtain ⟨v, hv, hr⟩ := (hF i hi').2.1.at_ hj
        show p.rel _ _ ((F i).2.getD j undef)
        rw [List.getD_eq_getElem?_getD, hv]; exact hr
      · intro y hy
        obtain ⟨i, hi, rfl⟩ := List.mem_map.1 hy
        exact (hF i (List.mem_range.1 hi)).2.2
def VD {T : TypeId} {ag : Bool} {k : Nat} {α : Type} {f : α → List PV} {g : α → Prop} (hT : cO P T = some (ag, k)) (hs : si P T f g) {w : World} {r : Reach} {b0 : Nat} {v : Value} {d : DataW H} {ps : List MemPlace} (hval : Value.okWide P w r b0 T v) (h : DataW.Trod enc P w 0 (fun _ => true) true T v d ps) :
    ∃ a, rV ag (f a) (uP w) w v ∧ g a := by
  obtain ⟨n, hn⟩ := h
  obtain ⟨a, ha, hg⟩ := hs enc w _ _ n _ _ hn
  refine ⟨a, ⟨?_, ha⟩, hg⟩
  unfold cO at hT
  cases hu : P.underlying T with
  | none => rw [hu] at hT; cases hT
  | some dd =>
    cases hi : P.info? T with
    | none => rw [hu, hi] at hT; cases hT
    | some i =>
      rw [hu, hi] at hT
      simp only [Option.some.injEq, Prod.mk.injEq] at hT
      obtain ⟨hT, _⟩ := hT
      unfold Value.okWide at hval
      rw [hu] at hval
      cases dd <;> simp only at hT hval <;> subst hT <;> first
        | (obtain ⟨cs, rfl, _⟩ := hval; rfl)
        | (cases v <;> first | rfl | (simp [Cell.okWide, Cell.ok, hu] at hval))
end
end
end Go.Proofs.YtmekkgdboplbjaaGreat.M
namespace Go.Proofs.YtmekkgdboplbjaaGreat.M
open Go Go.RowKit
section
section
variable {P : Program} {n d : Nat} {ty : TypeId} {pos : String} {af : Array Edge} {g : Option (Nat × Bool)} {G : uO}
end
end
section
section
variable {h0 : Nat → Prop} {n : Nat} {w0 w : World} {Fz0 Fz : ay} {σ : St} {a : Act} {φ : Nat → Nat} {Fp : Nat → List Nat} {P : Program} {c : Code} {Q : Exit → St → Prop}
end
end
end Go.Proofs.YtmekkgdboplbjaaGreat.M
namespace Go.Proofs.YtmekkgdboplbjaaGreat.M
open Go
section
inductive fm (s : Nat → Option RV) : List Nat → List (Nat × RV) → Prop
  | nil : fm s [] []
  | cons {k : Nat} {v : RV} {ks : List Nat} {l : List (Nat × RV)} (h : s k = some v) (t : fm s ks l) : fm s (k :: ks) ((k, v) :: l)
def fm.rd {s : Nat → Option RV} {ks : List Nat} {l : List (Nat × RV)} (h : fm s ks l) : bc l s := by
  induction h with
  | nil => exact True.intro
  | cons h _ ih => exact And.intro h ih
inductive iQ (b : Nat → Option (Nat × List PV)) : List Nat → List (Nat × (Nat × List PV)) → Prop
  | nil : iQ b [] []
  | cons {k : Nat} {v : Nat × List PV} {ks : List Nat} {l : List (Nat × (Nat × List PV))} (h : b k = some v) (t : iQ b ks l) : iQ b (k :: ks) ((k, v) :: l)
def iQ.rd {b : Nat → Option (Nat × List PV)} {ks : List Nat} {l : List (Nat × (Nat × List PV))} (h : iQ b ks l) : bc l b := by
  induction h with
  | nil => exact True.intro
  | cons h _ ih => exact And.intro h ih
def qq : (∀ {p : Prop} [Decidable p], (decide p = true) = p) ∧ (∀ {p : Prop} [Decidable p], decide p = false ↔ ¬ p) ∧ (∀ {α : Type} [BEq α] [LawfulBEq α] {a b : α}, (a != b) = true ↔ a ≠ b) ∧ (∀ {α : Type} [BEq α] [LawfulBEq α] {a b : α}, (a == b) = true ↔ a = b) ∧ (∀ {b : Bool}, ((!b) = true) = (b = false)) ∧ (∀ {b : Bool}, ((!b) = false) = (b = true)) ∧ (∀ {α : Type} {a b : α}, (a ≠ b) = ¬ a = b) ∧ (∀ {α : Type} [BEq α] [LawfulBEq α] {a b : α}, (a != b) = false ↔ a = b) ∧ (∀ {α : Type} [BEq α] [LawfulBEq α] {a b : α}, (a == b) = false ↔ a ≠ b) :=
  ⟨q1, q2, q3, q4, q5, q6, q7, q8, q9⟩
def Ic {L : Nat → Prop} {a b : List PV} (h : ar L a) (k : ar L b) : ar L (List.append a b) := ar.app h k
def lc {G : Prop} (h : G := by repeat' (first | with_reducible (first | exact nc.nil | exact ar.nil | exact ar.vals | exact PV.lcl_val | exact PV.lcl_any | exact RV.lcl_hdr | exact RV.lcl_ptr | exact RV.lcl_gat | exact RV.lcl_phi | apply nc.cons | apply ar.cons | apply RV.lcl_nm | apply RV.lcl_sv | apply RV.lcl_gh | apply PV.lcl_nv | apply PV.lcl_own | apply ar.flat | apply ar.app | apply Ic | refine ar.map fun _ => ?_) | apply ar.cons | apply nc.cons | exact ar.nil | refine ar.map fun _ => ?_)) : G := h
def aI {a b : Prop} (x : a) (y : b) : a ∧ b := ⟨x, y⟩
def tI : True := True.intro
def nl {a b : Nat} (h : Nat.ble a b = true) : a ≤ b := Nat.le_of_ble_eq_true h
section
variable {P : Program} {n : Nat} {h0 : Nat → Prop} {w0 : World} {Fz0 : ay} {c x y : Code} {σ : St} {Q : Exit → St → Prop}
def sP (ks bs : List Nat) {l : List (Nat × RV)} {b : List (Nat × (Nat × List PV))} (h : SW P n h0 w0 Fz0 c (St.of l b) Q) (hl : fm σ.s ks l := by repeat (first | exact fm.nil | apply fm.cons rfl)) (hb : iQ σ.b bs b := by repeat (first | exact iQ.nil | apply iQ.cons rfl)) : SW P n h0 w0 Fz0 c σ Q := sO l b h hl.rd hb.rd
def sS {id : Nat} {ops : Array Oper} (ks bs : List Nat) {l : List (Nat × RV)} {b : List (Nat × (Nat × List PV))} (h : aq P n ops (fun τ => rY (fun τ => SW P n h0 w0 Fz0 y τ Q) Q .normal τ) ops.toList (St.of l b)) (hl : fm σ.s ks l := by repeat (first | exact fm.nil | apply fm.cons rfl)) (hb : iQ σ.b bs b := by repeat (first | exact iQ.nil | apply iQ.cons rfl)) : SW P n h0 w0 Fz0 (.seq (.region id ops false) y) σ Q := be (sO l b (bd h) hl.rd hb.rd)
def sG {id : Nat} {ops : Array Oper} (ks bs : List Nat) {l : List (Nat × RV)} {b : List (Nat × (Nat × List PV))} (h : aq P n ops (fun τ => Q .normal τ) ops.toList (St.of l b)) (hl : fm σ.s ks l := by repeat (first | exact fm.nil | apply fm.cons rfl)) (hb : iQ σ.b bs b := by repeat (first | exact iQ.nil | apply iQ.cons rfl)) : SW P n h0 w0 Fz0 (.region id ops false) σ Q := sO l b (bd h) hl.rd hb.rd
def sL {ι : Type} (ks bs : List Nat) (I : ι → Prop) {l0 : List (Nat × RV)} {b0 : List (Nat × (Nat × List PV))} (l : ι → List (Nat × RV)) (b : ι → List (Nat × (Nat × List PV))) (m : ι → Nat) (i0 : ι) (h0' : I i0) (hl : bc (l i0) σ.s) (hb : bc (b i0) σ.b)
    (round : ∀ i, I i → SW P n h0 w0 Fz0 c (St.of (l0 ++ l i) (b0 ++ b i)) (rY (fun τ => ∃ j, I j ∧ m j < m i ∧ (bc l0 τ.s ∧ bc b0 τ.b) ∧ bc (l j) τ.s ∧ bc (b j) τ.b) Q)) (hl0 : fm σ.s ks l0 := by repeat (first | exact fm.nil | apply fm.cons rfl)) (hb0 : iQ σ.b bs b0 := by repeat (first | exact iQ.nil | apply iQ.cons rfl)) : SW P n h0 w0 Fz0 (.loop c) σ Q := UY I l b m i0 h0' hl0.rd hb0.rd hl hb round
def sR {id : Nat} {ops : Array Oper} (h : aq P n ops (fun τ => rY (fun τ => SW P n h0 w0 Fz0 y τ Q) Q .normal τ) ops.toList σ) : SW P n h0 w0 Fz0 (.seq (.region id ops false) y) σ Q := be (bd h)
end
section
variable {P : Program} {n : Nat} {ops : Array Oper} {σ : St} {QS : St → Prop} {l : List Oper} {d x : Nat} {ty : TypeId} {pos : String} {af : Array Edge}
def rM {v : Value} (y : aq P n ops QS l (σ.app ⟨[(x, RV.sc v)], [], [(d, some (RV.sc v))], [], none⟩)) (h1 : bc [(x, RV.sc v)] σ.s := by repeat (first | exact True.intro | refine And.intro rfl ?_)) (hd : d < n := by decide) : aq P n ops QS (⟨some d, .move (.tmp x), ty, pos, af, none⟩ :: l) σ := rA y h1 True.intro (sM hd) rfl rfl
def rS {v : Value} (y : aq P n ops QS l (σ.app ⟨[(x, RV.sc v)], [], [(d, some (RV.sc v))], [], none⟩)) (h1 : bc [(x, RV.sc v)] σ.s := by repeat (first | exact True.intro | refine And.intro rfl ?_)) (hd : d < n := by decide) : aq P n ops QS (⟨some d, .assign (.tmp x), ty, pos, af, none⟩ :: l) σ := rA y h1 True.intro (sA hd) rfl rfl
def rK {v : Value} (y : aq P n ops QS l (σ.app ⟨[], [], [(d, some (RV.sc v))], [], none⟩)) (h : v.oneCell' = true := by exact rfl) (hd : d < n := by decide) : aq P n ops QS (⟨some d, .assign (.const v), ty, pos, af, none⟩ :: l) σ := rA y True.intro True.intro (kA h hd) rfl rfl
end
end
end Go.Proofs.YtmekkgdboplbjaaGreat.M
namespace Go.Proofs.YtmekkgdboplbjaaGreat.M
open Go Go.RowKit
section
inductive iR : List PV → List PV → Prop
  | nil : iR [] []
  | val {v : Value} {l m : List PV} (h : iR l m) : iR (PV.val v :: l) (PV.val v :: m)
  | sl {o : Fl} {es : List (List PV)} {l m : List PV} (h : iR l m) : iR (PV.sl o es :: l) (PV.sl o es :: m)
def iR.eq {l m : List PV} (h : iR l m) : l = m := by
  induction h with
  | nil => rfl
  | val _ ih => rw [ih]
  | sl _ ih => rw [ih]
inductive hR (b : Nat → Option (Nat × List PV)) : List Nat → List (Nat × (Nat × List PV)) → Prop
  | nil : hR b [] []
  | cons {k T : Nat} {cs ds : List PV} {ks : List Nat} {l : List (Nat × (Nat × List PV))} (h : b k = some (T, cs)) (e : iR cs ds) (t : hR b ks l) : hR b (k :: ks) ((k, (T, ds)) :: l)
  | any {k T : Nat} {cs : List PV} {ks : List Nat} {l : List (Nat × (Nat × List PV))} (h : b k = some (T, cs)) (t : hR b ks l) : hR b (k :: ks) ((k, (T, cs)) :: l)
def hR.rd {b : Nat → Option (Nat × List PV)} {ks : List Nat} {l : List (Nat × (Nat × List PV))} (h : hR b ks l) : bc l b := by
  induction h with
  | nil => exact True.intro
  | cons h e _ ih => exact And.intro (e.eq ▸ h) ih
  | any h _ ih => exact And.intro h ih
section
variable {P : Program} {n : Nat} {h0 : Nat → Prop} {w0 : World} {Fz0 : ay} {c x y : Code} {σ : St} {Q : Exit → St → Prop}
def sQ (ks bs : List Nat) {l : List (Nat × RV)} {b : List (Nat × (Nat × List PV))} (h : SW P n h0 w0 Fz0 c (St.of l b) Q) (hl : fm σ.s ks l := by repeat (first | exact fm.nil | apply fm.cons rfl)) (hb : hR σ.b bs b := by repeat (first | exact hR.nil | refine hR.cons rfl (by repeat (first | exact iR.nil | apply iR.val | apply iR.sl)) ?_ | apply hR.any rfl)) : SW P n h0 w0 Fz0 c σ Q := sO l b h hl.rd hb.rd
def sT {id : Nat} {ops : Array Oper} (ks bs : List Nat) {l : List (Nat × RV)} {b : List (Nat × (Nat × List PV))} (h : aq P n ops (fun τ => rY (fun τ => SW P n h0 w0 Fz0 y τ Q) Q .normal τ) ops.toList (St.of l b)) (hl : fm σ.s ks l := by repeat (first | exact fm.nil | apply fm.cons rfl)) (hb : hR σ.b bs b := by repeat (first | exact hR.nil | refine hR.cons rfl (by repeat (first | exact iR.nil | apply iR.val | apply iR.sl)) ?_ | apply hR.any rfl)) : SW P n h0 w0 Fz0 (.seq (.region id ops false) y) σ Q := be (sO l b (bd h) hl.rd hb.rd)
def sH {id : Nat} {ops : Array Oper} (ks bs : List Nat) {l : List (Nat × RV)} {b : List (Nat × (Nat × List PV))} (h : aq P n ops (fun τ => Q .normal τ) ops.toList (St.of l b)) (hl : fm σ.s ks l := by repeat (first | exact fm.nil | apply fm.cons rfl)) (hb : hR σ.b bs b := by repeat (first | exact hR.nil | refine hR.cons rfl (by repeat (first | exact iR.nil | apply iR.val | apply iR.sl)) ?_ | apply hR.any rfl)) : SW P n h0 w0 Fz0 (.region id ops false) σ Q := sO l b (bd h) hl.rd hb.rd
def nx {ι : Type} {I : ι → Prop} {m : ι → Nat} {M : Nat} {C D : Prop} {E F : ι → Prop} (j : ι) (a : I j) (b : m j < M := by first | omega | (dsimp only; omega)) (c : C := by repeat (first | exact True.intro | refine And.intro rfl ?_)) (d : D := by repeat (first | exact True.intro | refine And.intro rfl ?_)) (e : E j := by repeat (first | exact True.intro | refine And.intro rfl ?_)) (f : F j := by repeat (first | exact True.intro | refine And.intro rfl ?_)) : ∃ j, I j ∧ m j < M ∧ (C ∧ D) ∧ E j ∧ F j := ⟨j, a, b, ⟨c, d⟩, e, f⟩
def sF {f : FuncId} {fn : Func} {c : Code} {args rs : List (Bool × List PV)} (hf : P.funcs[f]? = some fn) (h : ∀ (h0 : Nat → Prop) (w0 : World) (Fz0 : ay), SW P fn.ntmps h0 w0 Fz0 c (St.of (iu 0 args) []) (uD P fn.results.toList rs)) (hb : fn.body = some c := by exact rfl) (hn : args.length ≤ fn.ntmps := by exact Nat.le_of_ble_eq_true rfl)
    (hbor : xq args := by repeat (first | with_reducible exact gr | with_reducible refine gR (by repeat (first | with_reducible exact aj.nil | with_reducible refine aj.cons (PV.bor_val _) ?_ | with_reducible refine aj.cons (PV.bor_sl _) ?_ | with_reducible refine aj.cons (PV.bor_lo _ _) ?_)) ?_)) : aN P f args (aJ rs) := Va hf hb hn hbor h
def sn (s j : Nat) {ag : Bool} {cs : List PV} {o : Fl} {es : List (List PV)} {m : Nat} (h : m ≤ 9223372036854775807 → SW P n h0 w0 Fz0 c σ Q) (hs : σ.s s = some (RV.sv ag cs) := by exact rfl) (hj : cs[j]? = some (PV.sl o es) := by exact rfl) (hm : es.length = m := by first | exact aw _ | exact rfl) : SW P n h0 w0 Fz0 c σ Q := Vd hs hj fun k => h (hm ▸ k)
def sj (s : Nat) {o : Fl} {es : List (List PV)} {m : Nat} (h : m ≤ 9223372036854775807 → SW P n h0 w0 Fz0 c σ Q) (hs : σ.s s = some (RV.slc o es) := by exact rfl) (hm : es.length = m := by first | exact aw _ | exact rfl) : SW P n h0 w0 Fz0 c σ Q := UZ hs fun k => h (hm ▸ k)
def sc {t : Nat} {b : Bool} {A B : Prop} (h1 : A → SW P n h0 w0 Fz0 x σ Q) (h2 : B → SW P n h0 w0 Fz0 y σ Q) (ht : σ.s t = some (RV.bool b) := by exact rfl) (u1 : b = true → A := by first | (intro h; simp only [qq] at h; exact h) | exact id) (u2 : b = false → B := by first | (intro h; simp only [qq] at h; exact h) | exact id) : SW P n h0 w0 Fz0 (.cond (.tmp t) x y) σ Q := Bf ht (fun k => h1 (u1 k)) (fun k => h2 (u2 k))
def cv {t : Nat} (h1 : SW P n h0 w0 Fz0 x σ Q) (ht : σ.s t = some (RV.bool true) := by exact rfl) : SW P n h0 w0 Fz0 (.cond (.tmp t) x y) σ Q := Bf ht (fun _ => h1) (fun k => nomatch k)
def eX {t : Nat} (h1 : SW P n h0 w0 Fz0 y σ Q) (ht : σ.s t = some (RV.bool false) := by exact rfl) : SW P n h0 w0 Fz0 (.cond (.tmp t) x y) σ Q := Bf ht (fun k => nomatch k) (fun _ => h1)
end
section
variable {P : Program} {n : Nat} {ops : Array Oper} {σ σ0 : St} {QS : St → Prop} {l : List Oper} {o : Oper} {acc : List (Nat × aC)} {C : Nat → aC → Prop}
def cx (s : Nat) {b : Bool} {A B : Prop} (h1 : b = true → A → aq P n ops QS l σ) (h2 : b = false → B → aq P n ops QS l σ) (ht : σ.s s = some (RV.bool b) := by exact rfl) (u1 : b = true → A := by first | (intro h; simp only [qq] at h; exact h) | exact id) (u2 : b = false → B := by first | (intro h; simp only [qq] at h; exact h) | exact id) : aq P n ops QS l σ := aq.cases ht (fun k => h1 k (u1 k)) (fun k => h2 k (u2 k))
def dx (s : Nat) {b : Bool} {A B : Prop} (h1 : b = true → A → bJ P n ops σ0 C QS l acc σ) (h2 : b = false → B → bJ P n ops σ0 C QS l acc σ) (ht : σ.s s = some (RV.bool b) := by exact rfl) (u1 : b = true → A := by first | (intro h; simp only [qq] at h; exact h) | exact id) (u2 : b = false → B := by first | (intro h; simp only [qq] at h; exact h) | exact id) : bJ P n ops σ0 C QS l acc σ := bJ.cases ht (fun k => h1 k (u1 k)) (fun k => h2 k (u2 k))
inductive Hd (H : Prop) : Prop
  | mk (h : H) : Hd H
def Hd.g {H : Prop} : Hd H → H := fun x => by cases x with | mk h => exact h
abbrev ah (G H : Prop) := Hd H → G
def ai {G H : Prop} (w : ah G H) (h : H) : G := w ⟨h⟩
def zt {c : Bool} {G H : Prop} (g : c = true) (h : H) (w : c = true → Hd H → G := by intro g_ h_; (repeat (first | refine aq.s0t g_ ?_ | refine aq.su ?_)); exact h_.g) : G := w g ⟨h⟩
def zf {c : Bool} {G H : Prop} (g : c = false) (h : H) (w : c = false → Hd H → G := by intro g_ h_; (repeat (first | refine aq.s0f g_ ?_ | refine aq.su ?_)); exact h_.g) : G := w g ⟨h⟩
def rX {L : aC} (y : aq P n ops QS l (σ.app L)) (h1 : bc L.rs σ.s := by repeat (first | exact True.intro | refine And.intro rfl ?_)) (h2 : bc L.rb σ.b := by repeat (first | exact True.intro | refine And.intro rfl ?_)) (x : Loc P n o L) (hg : o.guard = none := by exact rfl) (ha : ∀ d, L.al = some d → cu d σ := by refine nV ?_; repeat (first | exact cu.of_ rfl | refine cu.app ?_ rfl)) : aq P n ops QS (o :: l) σ := aq.step h1 h2 (bX.of hg x) ha y
def dX {L : aC} (m : Nat) (y : bJ P n ops σ0 C QS l (acc ++ [(m, L)]) (σ.app L)) (h1 : bc L.rs σ.s := by repeat (first | exact True.intro | refine And.intro rfl ?_)) (h2 : bc L.rb σ.b := by repeat (first | exact True.intro | refine And.intro rfl ?_)) (x : Loc P n o L) (hg : o.guard = none := by exact rfl) (ha : ∀ d, L.al = some d → cu d σ0 := by exact gq) (h4 : nb m o L acc = true := by kernel_rfl) (hC : C acc.length L := by show (List.all _ _) = true; kernel_rfl) : bJ P n ops σ0 C QS (o :: l) acc σ := bJ.stepC m h1 h2 (bX.of hg x) ha h4 hC y
end
def rb {b c : Bool} (h : b = c) : some (RV.bool b) = some (RV.bool c) ∧ True := ⟨fS h, True.intro⟩
def VE {L : Nat → Prop} : ∀ cs, cs ∈ ([] : List (List PV)) → ar L cs := fun _ h => nomatch h
def VF {L : Nat → Prop} : ∀ cs, cs ∈ ([] : List (List PV)) → jj L cs := fun _ h => nomatch h
def lq {G : Prop} (h : G := by repeat' (first | with_reducible (first | exact ar.nil | exact ar.vals | exact jj.nil | exact PV.lcl_val | exact PV.lclr_val | exact PV.lcl_any | exact RV.lcl_hdr | exact RV.lcl_ptr | exact RV.lcl_gat | exact RV.lcl_phi | exact aj.nil | exact PV.bor_val _ | exact PV.bor_sl _ | exact PV.bor_lo _ _ | exact PV.bor_any | exact PV.bor_clo _ _ | exact PV.bor_ep _ | apply PV.bor_nv | exact gr | exact ae.nil | exact PV.tob_refl | exact iv.nil | exact OTo.refl | exact OTo.lo | apply ar.cons | apply jj.cons | apply aj.cons | apply gR | apply ae.cons | apply iv.cons | apply RV.lcl_nm | apply RV.lcl_sv | apply RV.lcl_gh | apply PV.lcl_nv | apply PV.lcl_own | apply PV.lcl_lo | apply PV.lclr_lo | apply ar.flat | apply ar.app | apply Ic | refine ar.map fun _ => ?_ | refine jj.map fun _ => ?_ | refine PV.tob_map (fun _ => Nat.le_of_ble_eq_true rfl) (fun _ => ?_) | exact True.intro | exact nc.nil | apply nc.cons) | apply ar.cons | apply jj.cons | apply ae.cons | apply aj.cons | apply gR | exact ar.nil | exact jj.nil | exact ae.nil | exact aj.nil | exact gr | exact VE | exact VF | apply iv.cons | apply RV.lcl_sv | exact RV.lcl_ptr | exact True.intro | exact Or.inl rfl | (refine Or.inl ?_; simp [jK]; done) | refine Or.inr ?_ | refine And.intro rfl ?_ | refine And.intro ?_ ?_ | exact rfl | refine ar.map fun _ => ?_)) : G := h
end
section
def xI {α : Type} {f g : α → List PV} {fN : α × (Nat → Value) → List PV} {e : Nat} (hN : ∀ x h, fN (x, h) = eb h 0 (g x)) (hg : ∀ x, (g x).length = e) (hq : ∀ x, ao (f x) (g x)) (hb : ∀ x, aj (g x)) {Fz : ay} {w : World} : ∀ {xs : List α} {css : List Value} {F : List Nat}, cl e (xs.map f) Fz w css F →
    ∃ zs : List (α × (Nat → Value)), zs.map Prod.fst = xs ∧ css = bm e zs ∧ cl e (zs.map fN) Fz w css [] ∧ aL (bK f zs) Fz w (bm e zs) F
  | [], css, F, h => by
    obtain ⟨rfl, rfl⟩ := h
    exact ⟨[], rfl, rfl, ⟨rfl, rfl⟩, ⟨rfl, rfl⟩⟩
  | x :: xs, css, F, h => by
    obtain ⟨c, d, F1, F2, rfl, rfl, hl, h1, h2⟩ := h
    obtain ⟨zs, e1, e2, e3, e4⟩ := xI hN hg hq hb h2
    obtain ⟨k, hk⟩ := By hl
    refine ⟨(x, k) :: zs, by rw [List.map_cons, e1], ?_, ?_, ?_⟩
    · rw [hk, e2]; rfl
    · refine ⟨c, d, [], [], rfl, rfl, hl, ?_, e3⟩
      rw [hN, xE, hg, ← List.range_eq_range', ← hk]
      exact xD (hb x) ((hq x).rel h1.rel)
    · have : aL (f x ++ bK f zs) Fz w (c ++ bm e zs) (F1 ++ F2) := h1.append e4
      rw [hk] at this; exact this
section
variable {P : Program} {n : Nat} {h0 : Nat → Prop} {w0 : World} {Fz0 : ay} {σ : St} {Q : Exit → St → Prop} {c : Code}
def Ie {s t e G : Nat} {α : Type} {f g : α → List PV} {fN : α × (Nat → Value) → List PV} {xs : List α} (hs : σ.s s = some (RV.sv false [PV.sl (.own t e) (xs.map f)])) (hsG : Nat.beq s G = false) (hG : σ.s G = none) (hN : ∀ x h, fN (x, h) = eb h 0 (g x)) (hg : ∀ x, (g x).length = e) (hq : ∀ x, ao (f x) (g x)) (hb : ∀ x, aj (g x))
    (h : ∀ zs : List (α × (Nat → Value)), zs.map Prod.fst = xs → SW P n h0 w0 Fz0 c ((σ.set s (some (RV.sv false [PV.sl .v (zs.map fN)]))).set G (some (RV.gh (bm e zs) (bK f zs)))) Q) : SW P n h0 w0 Fz0 c σ Q := fun a w hc => by
  rw [beq_eq, decide_eq_false_iff_not] at hsG
  obtain ⟨φ, Fz, Fp, hc⟩ := hc
  have hv : ct false [PV.sl (.own t e) (xs.map f)] Fz w (a.tmps.getD s undef) (Fp (2 * s + 1)) := hc.slot s _ hs
  obtain ⟨hag, v, vs', F1, F2, hv1, hF, ho, hnil, rfl⟩ := hv
  subst hnil
  have ho : dm t e (xs.map f) Fz w v F1 := ho
  obtain ⟨css, F', hrow, hll, hfz, rfl, hone⟩ := ho
  obtain ⟨zs, e1, e2, e3, e4⟩ := xI hN hg hq hb hll
  have hlen : (zs.map fN).length = (xs.map f).length := by rw [aw, aw, ← e1, aw]
  have hsl : dm t e (zs.map fN) Fz w v (v.ownBlock.toList ++ []) := ⟨css, [], by rw [hlen]; exact hrow, e3, fun g hg o => by rw [hlen]; exact hfz g hg o, rfl, hone⟩
  have c1 := hc.pull s
  have e0 : mv Fp (2 * s + 1) 0 = Fp (2 * s + 1) ++ Fp 0 := by simp [mv]
  have es : mv Fp (2 * s + 1) (2 * s + 1) = [] := by simp [mv]
  have hnd := c1.nod 0
  rw [e0, hF, dP] at hnd
  rw [hF, dP] at e0
  have c2 := c1.reslot (s := s) (rv := RV.sv false [PV.sl .v (zs.map fN)]) (by
    rw [es]
    exact ⟨hag, v, [], [], [], hv1, rfl, ⟨hsl.rel, rfl⟩, rfl, rfl⟩)
  have c3 := c2.pushG (G := G) (us := bm e zs) (cs := bK f zs) (F := F') (X := Fp 0) e4 (fun b hb => by
      rw [e0]
      rcases List.mem_append.1 hb with hb | hb
      · simp [hb]
      · simp [hb])
    (by
      rw [bu] at hnd
      exact (List.nodup_append.1 hnd).2.1)
  exact h zs e1 a w (bo.eqv ⟨_, _, _, c3⟩ (fun i => by
    simp only [St.set_s]
    split
    · rfl
    · split <;> rfl) (fun d => rfl))
def If {G H e : Nat} {α : Type} {f : α → List PV} {ys zs : List (α × (Nat → Value))} (hG : σ.s G = some (RV.gh (bm e ys) (bK f ys))) (hH : σ.s H = some (RV.gh (bm e zs) (bK f zs))) (hGH : Nat.beq G H = false) (h : SW P n h0 w0 Fz0 c ((σ.set H none).set G (some (RV.gh (bm e (ys ++ zs)) (bK f (ys ++ zs))))) Q) : SW P n h0 w0 Fz0 c σ Q := fun a w hc => by
  rw [beq_eq, decide_eq_false_iff_not] at hGH
  obtain ⟨φ, Fz, Fp, hc⟩ := hc
  have h1 : aL (bK f ys) Fz w (bm e ys) (Fp (2 * G + 1)) := hc.slot G _ hG
  have h2 : aL (bK f zs) Fz w (bm e zs) (Fp (2 * H + 1)) := hc.slot H _ hH
  have ho : aL (bK f (ys ++ zs)) Fz w (bm e (ys ++ zs)) (Fp (2 * G + 1) ++ Fp (2 * H + 1)) := by
    have e1 : bK f (ys ++ zs) = bK f ys ++ bK f zs := by simp [bK]
    have e2 : bm e (ys ++ zs) = bm e ys ++ bm e zs := by simp [bm]
    rw [e1, e2]; exact h1.append h2
  have c1 := hc.pull H
  have c2 := c1.pull G
  have e1 : mv Fp (2 * H + 1) (2 * G + 1) = Fp (2 * G + 1) := by simp only [mv]; rw [if_neg (by omega), if_neg (by omega)]
  have e2 : mv (mv Fp (2 * H + 1)) (2 * G + 1) 0 = Fp (2 * G + 1) ++ (Fp (2 * H + 1) ++ Fp 0) := by
    rw [← e1]; simp [mv]
  have hnd := c2.nod 0
  rw [e2] at hnd
  have c3 := c2.pushG (G := G) (F := Fp (2 * G + 1) ++ Fp (2 * H + 1)) (X := Fp 0) ho (fun b hb => by rw [e2, ← bu]; exact hb) (by rw [bu]; exact hnd)
  exact h a w (bo.eqv ⟨_, _, _, c3⟩ (fun i => by
    simp only [St.set_s]
    split
    · rfl
    · rfl) (fun d => rfl))
def BF {d t G e : Nat} {α : Type} {f : α → List PV} {z : α × (Nat → Value)} {zs : List (α × (Nat → Value))} {ps : List PV} (hd : σ.b d = some (t, ps)) (hn : Nm ps ((List.range e).map z.2)) (hf : ∀ x, (f x).length = e) (hG : σ.s G = some (RV.gh (bm e (z :: zs)) (bK f (z :: zs))))
    (h : SW P n h0 w0 Fz0 c ((σ.setB d (some (t, f z.1))).set G (some (RV.gh (bm e zs) (bK f zs)))) Q) : SW P n h0 w0 Fz0 c σ Q := fun a w hc => by
  obtain ⟨φ, Fz, Fp, hc⟩ := hc
  have hg0 : aL (f z.1 ++ bK f zs) Fz w ((List.range e).map z.2 ++ bm e zs) (Fp (2 * G + 1)) := hc.slot G _ hG
  obtain ⟨v1, v2, F1, F2, k1, k2, k3, k4⟩ := hg0.split
  obtain ⟨rfl, rfl⟩ := List.append_inj k1 (by rw [k3.len, hf]; simp)
  have c1 := hc.pull G
  have e0 : mv Fp (2 * G + 1) 0 = Fp (2 * G + 1) ++ Fp 0 := by simp [mv]
  obtain ⟨cur, h1, h2⟩ := c1.box d (t, ps) hd
  obtain ⟨g1, g2, g3⟩ := c1.bxb d (t, ps) hd
  have hu : cur.toList = (List.range e).map z.2 := hn h2.rel
  have c2 := c1.pullB (d := d) (cs := (t, ps)) hd
  generalize hFp1 : mv Fp (2 * G + 1) = Fp1 at c1 c2 e0 h2 g3
  have hnd := c2.nod 0
  simp only [if_true] at hnd
  have em : mv Fp1 (2 * d + 2) 0 = Fp1 (2 * d + 2) ++ Fp1 0 := by simp [mv]
  rw [em, e0, k2] at hnd
  rw [k2] at e0
  have c3 := c2.pushB (d := d) (g := φ d) (t := t) (cs := f z.1) (F := F1) (X := F2 ++ Fp 0) (by rw [St.setB_b, if_pos rfl]) h1 (by rw [hu]; exact k3) g2
    (fun x hx => by
      simp only [if_true]
      rw [em, e0]
      rcases List.mem_append.1 hx with hx | hx
      · simp [hx]
      · rcases List.mem_cons.1 hx with rfl | hx
        · simp
        · rcases List.mem_append.1 hx with hx | hx <;> simp [hx])
    (by
      simp only [gO, eT] at hnd
      obtain ⟨m0, m1⟩ := hnd
      have m2 := (List.nodup_append.1 m1).2.1
      rw [bu, cE] at m2
      rw [cE]
      refine ⟨m2.1, List.nodup_cons.2 ⟨fun hh => ?_, m2.2.1⟩, fun x hx y hy e => ?_⟩
      · rcases List.mem_append.1 hh with hh | hh
        · exact m0 (.inr (.inl (.inr hh)))
        · exact m0 (.inr (.inr hh))
      · rcases List.mem_cons.1 hy with rfl | hy
        · exact m0 (.inr (.inl (.inl (e ▸ hx))))
        · exact m2.2.2 x hx y hy e)
    (.inl rfl)
  have hn3 := c3.nod 0
  have c4 := c3.pushG (G := G) (F := F2) (X := Fp 0) k4 (fun b hb => by simp only [cS]; rw [if_neg (by omega)]; simpa using hb) (by
    simp only [cS] at hn3
    rw [if_neg (by omega)] at hn3
    simpa using hn3)
  exact h a w (bo.eqv ⟨_, _, _, c4⟩ (fun i => by
    simp only [St.set_s, St.setB_s]
    split <;> rfl) (fun e => by
    simp only [St.setB_b, St.set_b]
    split <;> rfl))
def sk {d T t e G : Nat} {A B : List PV} {α : Type} {f g : α → List PV} {fN : α × (Nat → Value) → List PV} {xs : List α} (hd : σ.b d = some (T, A ++ (PV.sl (.own t e) (xs.map f) :: B))) (hG : σ.s G = none) (hN : ∀ x h, fN (x, h) = eb h 0 (g x)) (hg : ∀ x, (g x).length = e) (hq : ∀ x, ao (f x) (g x)) (hb : ∀ x, aj (g x))
    (h : ∀ zs : List (α × (Nat → Value)), zs.map Prod.fst = xs → SW P n h0 w0 Fz0 c ((σ.setB d (some (T, A ++ (PV.sl .v (zs.map fN) :: B)))).set G (some (RV.gh (bm e zs) (bK f zs)))) Q) : SW P n h0 w0 Fz0 c σ Q := fun a w hc => by
  obtain ⟨φ, Fz, Fp, hc⟩ := hc
  obtain ⟨cur, h1, h2⟩ := hc.box d _ hd
  obtain ⟨g1, g2, g3⟩ := hc.bxb d _ hd
  obtain ⟨v1, v2, F1, F2, k1, k2, k3, v, vs', E1, E2, rfl, rfl, ho, kB⟩ := h2.split
  have ho : dm t e (xs.map f) Fz w v E1 := ho
  obtain ⟨css, F', hrow, hll, hfz, rfl, hone⟩ := ho
  obtain ⟨zs, e1, e2, e3, e4⟩ := xI hN hg hq hb hll
  have hlen : (zs.map fN).length = (xs.map f).length := by rw [aw, aw, ← e1, aw]
  have hsl : dm t e (zs.map fN) Fz w v (v.ownBlock.toList ++ []) := ⟨css, [], by rw [hlen]; exact hrow, e3, fun g hg o => by rw [hlen]; exact hfz g hg o, rfl, hone⟩
  have hnew : aL (A ++ (PV.sl .v (zs.map fN) :: B)) Fz w cur.toList (F1 ++ ([] ++ E2)) := by
    rw [k1]
    exact k3.append ⟨v, vs', [], E2, rfl, rfl, ⟨hsl.rel, rfl⟩, kB⟩
  rw [List.nil_append] at hnew
  have c2 := hc.pullB hd
  have hnd := c2.nod 0
  simp only [if_true] at hnd
  have em : mv Fp (2 * d + 2) 0 = Fp (2 * d + 2) ++ Fp 0 := by simp [mv]
  have k2' : Fp (2 * d + 2) = F1 ++ (v.ownBlock.toList ++ F' ++ E2) := k2
  rw [em, k2'] at hnd
  rw [k2'] at em
  have hperm : (φ d :: (F1 ++ (v.ownBlock.toList ++ F' ++ E2) ++ Fp 0)).Perm ((F1 ++ E2) ++ φ d :: (F' ++ (v.ownBlock.toList ++ Fp 0))) := by
    refine (List.Perm.trans ?_ List.perm_middle.symm)
    refine List.Perm.cons _ ?_
    simp only [bu]
    refine fP _ ?_
    show (v.ownBlock.toList ++ (F' ++ (E2 ++ Fp 0))).Perm (E2 ++ (F' ++ (v.ownBlock.toList ++ Fp 0)))
    have p1 : ((v.ownBlock.toList ++ F') ++ (E2 ++ Fp 0)).Perm ((F' ++ v.ownBlock.toList) ++ (E2 ++ Fp 0)) := iK _ jH
    have p2 : ((F' ++ v.ownBlock.toList) ++ (E2 ++ Fp 0)).Perm (E2 ++ ((F' ++ v.ownBlock.toList) ++ Fp 0)) := by
      rw [← bu, ← bu]
      exact iK _ jH
    have p3 := p1.trans p2
    simpa using p3
  have c3 := c2.pushB (d := d) (g := φ d) (t := T) (cs := A ++ (PV.sl .v (zs.map fN) :: B)) (F := F1 ++ E2) (X := F' ++ (v.ownBlock.toList ++ Fp 0)) (by rw [St.setB_b, if_pos rfl]) h1 hnew g2
    (fun x hx => by
      simp only [if_true]
      rw [em]
      exact hperm.mem_iff.2 hx) (hperm.nodup_iff.1 hnd) (.inl rfl)
  have hn3 := c3.nod 0
  have c4 := c3.pushG (G := G) (F := F') (X := v.ownBlock.toList ++ Fp 0) e4 (fun b hb => by simp only [cS]; rw [if_neg (by omega)]; simpa using hb) (by
    simp only [cS] at hn3
    rw [if_neg (by omega)] at hn3
    simpa using hn3)
  exact h zs e1 a w (bo.eqv ⟨_, _, _, c4⟩ (fun i => by
    simp only [St.set_s, St.setB_s]) (fun e => by
    simp only [St.setB_b, St.set_b]
    split <;> rfl))
end
end
section
def VG {α : Type} {f g : α → List PV} {fN : α × (Nat → Value) → List PV} {t e : Nat} (hN : ∀ x h, fN (x, h) = eb h 0 (g x)) (hg : ∀ x, (g x).length = e) (hq : ∀ x, ao (f x) (g x)) (hb : ∀ x, aj (g x)) {Fz : ay} {w : World} {xs : List α} {v : Value} {F : List Nat} (h : dm t e (xs.map f) Fz w v F) :
    ∃ zs : List (α × (Nat → Value)), ∃ F1 F2, zs.map Prod.fst = xs ∧ dm t e (zs.map fN) Fz w v F1 ∧ aL (bK f zs) Fz w (bm e zs) F2 ∧ F = F1 ++ F2 := by
  obtain ⟨css, F', hrow, hll, hfz, rfl, hone⟩ := h
  obtain ⟨zs, e1, e2, e3, e4⟩ := xI hN hg hq hb hll
  have hlen : (zs.map fN).length = (xs.map f).length := by rw [aw, aw, ← e1, aw]
  exact ⟨zs, v.ownBlock.toList ++ [], F', e1, ⟨css, [], by rw [hlen]; exact hrow, e3, fun g hg o => by rw [hlen]; exact hfz g hg o, rfl, hone⟩, e4, by simp⟩
def Ig {α : Type} {f : α → List PV} {ys zs : List (α × (Nat → Value))} : bK f (ys ++ zs) = bK f ys ++ bK f zs := by simp [bK]
def sq {α : Type} {e : Nat} {ys zs : List (α × (Nat → Value))} : bm e (ys ++ zs) = bm e ys ++ bm e zs := by simp [bm]
def xJ {α : Type} {a b c d : List α} : (a ++ b ++ (c ++ d)).Perm (a ++ c ++ (b ++ d)) := by
  simp only [bu]
  refine fP _ ?_
  rw [← bu, ← bu]
  exact iK _ jH
def Ih {α : Type} {f g : α → List PV} {fN : α × (Nat → Value) → List PV} {e : Nat} (hN : ∀ x h, fN (x, h) = eb h 0 (g x)) (hg : ∀ x, (g x).length = e) (hf : ∀ x, (f x).length = e) {Fz : ay} {w : World} : ∀ {zs : List (α × (Nat → Value))} {css : List Value} {F1 F2 : List Nat}, cl e (zs.map fN) Fz w css F1 → aL (bK f zs) Fz w (bm e zs) F2 → cl e ((zs.map Prod.fst).map f) Fz w css F2
  | [], css, F1, F2, h, k => by
    obtain ⟨rfl, rfl⟩ := h
    obtain ⟨_, rfl⟩ := k
    exact ⟨rfl, rfl⟩
  | z :: zs, css, F1, F2, h, k => by
    obtain ⟨c, d, Fa, Fb, rfl, rfl, hl, h1, h2⟩ := h
    have k : aL (f z.1 ++ bK f zs) Fz w ((List.range e).map z.2 ++ bm e zs) F2 := k
    obtain ⟨v1, v2, G1, G2, k1, k2, k3, k4⟩ := k.split
    obtain ⟨rfl, rfl⟩ := List.append_inj k1 (by rw [k3.len, hf]; simp)
    have hc : c = (List.range e).map z.2 := by
      have hr := h1.rel
      rw [show fN z = eb z.2 0 (g z.1) from hN z.1 z.2] at hr
      have hk : ∀ (ps : List PV) (i : Nat) (vs : List Value), bS (eb z.2 i ps) Fz w vs → vs = (List.range' i ps.length).map z.2 := by
        intro ps
        induction ps with
        | nil => intro i vs h; exact h
        | cons p ps ih =>
          intro i vs h
          obtain ⟨v, vs', rfl, h1, h2⟩ := h
          rw [ih _ _ h2, h1.1]; rfl
      rw [hk _ _ _ hr, hg, ← List.range_eq_range']
    subst hc
    exact ⟨_, d, G1, G2, rfl, k2, hl, k3, Ih hN hg hf h2 k4⟩
def Ii {α : Type} {f : α → List PV} {e : Nat} (hf : ∀ x, (f x).length = e) {Fz : ay} {w : World} {z : α × (Nat → Value)} {l : List (α × (Nat → Value))} {F : List Nat} (h : aL (bK f (z :: l)) Fz w (bm e (z :: l)) F) : ∃ F1 F2, F = F1 ++ F2 ∧ aL (f z.1) Fz w ((List.range e).map z.2) F1 ∧ aL (bK f l) Fz w (bm e l) F2 := by
  have h : aL (f z.1 ++ bK f l) Fz w ((List.range e).map z.2 ++ bm e l) F := h
  obtain ⟨v1, v2, F1, F2, e1, rfl, h1, h2⟩ := h.split
  obtain ⟨rfl, rfl⟩ := List.append_inj e1 (by rw [h1.len, hf]; simp)
  exact ⟨F1, F2, rfl, h1, h2⟩
def Ij {α : Type} {f : α → List PV} {e : Nat} (hf : ∀ x, (f x).length = e) {Fz : ay} {w : World} {ys zs : List (α × (Nat → Value))} (hs : ys.Sublist zs) : ∀ {F : List Nat}, aL (bK f zs) Fz w (bm e zs) F → ∃ F' R, F.Perm (F' ++ R) ∧ aL (bK f ys) Fz w (bm e ys) F' := by
  induction hs with
  | slnil => exact fun h => ⟨_, [], by rw [dP], h⟩
  | cons z hs ih =>
    intro F h
    obtain ⟨F1, F2, rfl, h1, h2⟩ := Ii hf h
    obtain ⟨F', R, hp, ho⟩ := ih h2
    exact ⟨F', F1 ++ R, (fP _ hp).trans (by rw [← bu, ← bu]; exact iK _ jH), ho⟩
  | cons_cons z hs ih =>
    intro F h
    obtain ⟨F1, F2, rfl, h1, h2⟩ := Ii hf h
    obtain ⟨F', R, hp, ho⟩ := ih h2
    refine ⟨F1 ++ F', R, (fP _ hp).trans (by rw [bu]), ?_⟩
    exact h1.append ho
def Ik {α : Type} {f g : α → List PV} {fN : α × (Nat → Value) → List PV} {t e : Nat} (hN : ∀ x h, fN (x, h) = eb h 0 (g x)) (hg : ∀ x, (g x).length = e) (hf : ∀ x, (f x).length = e) {Fz : ay} {w : World} {zs : List (α × (Nat → Value))} {v : Value} {F1 F2 : List Nat} (h : dm t e (zs.map fN) Fz w v F1) (k : aL (bK f zs) Fz w (bm e zs) F2) : dm t e ((zs.map Prod.fst).map f) Fz w v (v.ownBlock.toList ++ F2) := by
  obtain ⟨css, F', hrow, hll, hfz, rfl, hone⟩ := h
  have hlen : ((zs.map Prod.fst).map f).length = (zs.map fN).length := by simp
  exact ⟨css, F2, by rw [hlen]; exact hrow, Ih hN hg hf hll k, fun g hg o => by rw [hlen]; exact hfz g hg o, rfl, hone⟩
def Il {t e : Nat} {es : List (List PV)} {Fz : ay} {w : World} {v : Value} {F : List Nat} (h : dm t e es Fz w v F) : ∃ F', F = v.ownBlock.toList ++ F' := by
  obtain ⟨css, F', hrow, hll, hfz, rfl, hone⟩ := h
  exact ⟨F', rfl⟩
def xK {α : Type} {f : α → List PV} {x : α} {xs : List α} {jk : List Value} : bE f (x :: xs) jk = f x ++ bE f xs jk := by
  unfold bE; rw [List.map_cons, List.flatten_cons, bu]
def Im {α : Type} {f g : α → List PV} {fN : α × (Nat → Value) → List PV} {t e : Nat} (hN : ∀ x h, fN (x, h) = eb h 0 (g x)) (hg : ∀ x, (g x).length = e) (hq : ∀ x, ao (f x) (g x)) (hb : ∀ x, aj (g x)) {jk : List Value} {Fz : ay} {w : World} : ∀ {xss : List (List α)} {vs : List Value} {F : List Nat}, aL (bE (fun xs => [PV.sl (.own t e) (xs.map f)]) xss jk) Fz w vs F →
    ∃ zss : List (List (α × (Nat → Value))), ∃ F1 F2, zss.map (List.map Prod.fst) = xss ∧ aL (bE (fun zs => [PV.sl (.own t e) (zs.map fN)]) zss jk) Fz w vs F1 ∧ aL (bK f zss.flatten) Fz w (bm e zss.flatten) F2 ∧ F.Perm (F1 ++ F2)
  | [], vs, F, h => ⟨[], F, [], rfl, h, ⟨rfl, rfl⟩, by rw [dP]⟩
  | xs :: xss, vs, F, h => by
    rw [xK] at h
    obtain ⟨v, vs', Fa, Fb, rfl, rfl, ho, h2⟩ := h
    obtain ⟨zs, A1, A2, e1, e2, e3, rfl⟩ := VG hN hg hq hb (show dm t e (xs.map f) Fz w v Fa from ho)
    obtain ⟨zss, B1, B2, e4, e5, e6, hp⟩ := Im hN hg hq hb h2
    refine ⟨zs :: zss, A1 ++ B1, A2 ++ B2, by rw [List.map_cons, e1, e4], ?_, ?_, ?_⟩
    · rw [xK]; exact ⟨v, vs', A1, B1, rfl, rfl, e2, e5⟩
    · rw [List.flatten_cons, Ig, sq]; exact e3.append e6
    · exact (fP _ hp).trans xJ
def VH {α : Type} {f : α → List PV} {e : Nat} (hf : ∀ x, (f x).length = e) : ∀ l : List (α × (Nat → Value)), (bm e l).length = (bK f l).length := by
  intro l
  induction l with
  | nil => rfl
  | cons z l ih =>
    show ((List.range e).map z.2 ++ bm e l).length = (f z.1 ++ bK f l).length
    simp [hf, ih]
def In {α : Type} {f g : α → List PV} {fN : α × (Nat → Value) → List PV} {t e : Nat} (hN : ∀ x h, fN (x, h) = eb h 0 (g x)) (hg : ∀ x, (g x).length = e) (hf : ∀ x, (f x).length = e) {jk : List Value} {Fz : ay} {w : World} : ∀ {zss : List (List (α × (Nat → Value)))} {vs : List Value} {F1 F2 : List Nat}, aL (bE (fun zs => [PV.sl (.own t e) (zs.map fN)]) zss jk) Fz w vs F1 → aL (bK f zss.flatten) Fz w (bm e zss.flatten) F2 →
    ∃ F R, aL (bE (fun xs => [PV.sl (.own t e) (xs.map f)]) (zss.map (List.map Prod.fst)) jk) Fz w vs F ∧ (F1 ++ F2).Perm (F ++ R)
  | [], vs, F1, F2, h, k => ⟨F1, F2, h, List.Perm.refl _⟩
  | zs :: zss, vs, F1, F2, h, k => by
    rw [xK] at h
    obtain ⟨v, vs', G1, Fb, rfl, rfl, ho, h2⟩ := h
    rw [List.flatten_cons, Ig, sq] at k
    obtain ⟨v1, v2, K1, K2, k1, rfl, k3, k4⟩ := k.split
    obtain ⟨rfl, rfl⟩ := List.append_inj k1 (by rw [k3.len]; exact VH hf zs)
    have ho : dm t e (zs.map fN) Fz w v G1 := ho
    obtain ⟨G', rfl⟩ := Il ho
    have hb := Ik hN hg hf ho k3
    obtain ⟨F, R, e1, hp⟩ := In hN hg hf h2 k4
    refine ⟨(v.ownBlock.toList ++ K1) ++ F, G' ++ R, ?_, ?_⟩
    · rw [List.map_cons, xK]; exact ⟨v, vs', _, F, rfl, rfl, hb, e1⟩
    refine xJ.trans ?_
    refine (fP _ hp).trans ?_
    simp only [bu]
    refine fP _ ?_
    have p1 : (G' ++ (K1 ++ (F ++ R))).Perm ((K1 ++ F) ++ (G' ++ R)) := by
      have := (jH (l₁ := G') (l₂ := K1 ++ F)).append_right R
      simpa only [bu] using this
    simpa only [bu] using p1
section
variable {P : Program} {n : Nat} {h0 : Nat → Prop} {w0 : World} {Fz0 : ay} {σ : St} {Q : Exit → St → Prop} {c : Code}
def VI {d T G : Nat} {A B : List PV} {p : PV} {ι : Type} {q : ι → PV} {us : ι → List Value} {gs : ι → List PV} (hd : σ.b d = some (T, A ++ (p :: B))) (hG : σ.s G = none) (hp : ∀ {Fz : ay} {w : World} {v : Value} {F : List Nat}, p.own Fz w v F → ∃ i, ∃ F1 F2, (q i).own Fz w v F1 ∧ aL (gs i) Fz w (us i) F2 ∧ F.Perm (F1 ++ F2))
    (h : ∀ i, SW P n h0 w0 Fz0 c ((σ.setB d (some (T, A ++ (q i :: B)))).set G (some (RV.gh (us i) (gs i)))) Q) : SW P n h0 w0 Fz0 c σ Q := fun a w hc => by
  obtain ⟨φ, Fz, Fp, hc⟩ := hc
  obtain ⟨cur, h1, h2⟩ := hc.box d _ hd
  obtain ⟨g1, g2, g3⟩ := hc.bxb d _ hd
  obtain ⟨v1, v2, F1, F2, k1, k2, k3, v, vs', E1, E2, rfl, rfl, ho, kB⟩ := h2.split
  obtain ⟨i, P1, P2, m1, m2, m3⟩ := hp ho
  have hnew : aL (A ++ (q i :: B)) Fz w cur.toList (F1 ++ (P1 ++ E2)) := by
    rw [k1]
    exact k3.append ⟨v, vs', P1, E2, rfl, rfl, m1, kB⟩
  have c2 := hc.pullB hd
  have hnd := c2.nod 0
  simp only [if_true] at hnd
  have em : mv Fp (2 * d + 2) 0 = Fp (2 * d + 2) ++ Fp 0 := by simp [mv]
  have k2' : Fp (2 * d + 2) = F1 ++ (E1 ++ E2) := k2
  rw [em, k2'] at hnd
  rw [k2'] at em
  have hperm : (φ d :: (F1 ++ (E1 ++ E2) ++ Fp 0)).Perm ((F1 ++ (P1 ++ E2)) ++ φ d :: (P2 ++ Fp 0)) := by
    refine (List.Perm.trans ?_ List.perm_middle.symm)
    refine List.Perm.cons _ ?_
    simp only [bu]
    refine fP _ ?_
    refine (iK _ m3).trans ?_
    simp only [bu]
    refine fP _ ?_
    rw [← bu, ← bu]
    exact iK _ jH
  have c3 := c2.pushB (d := d) (g := φ d) (t := T) (cs := A ++ (q i :: B)) (F := F1 ++ (P1 ++ E2)) (X := P2 ++ Fp 0) (by rw [St.setB_b, if_pos rfl]) h1 hnew g2
    (fun x hx => by
      simp only [if_true]
      rw [em]
      exact hperm.mem_iff.2 hx) (hperm.nodup_iff.1 hnd) (.inl rfl)
  have hn3 := c3.nod 0
  have c4 := c3.pushG (G := G) (F := P2) (X := Fp 0) m2 (fun b hb => by simp only [cS]; rw [if_neg (by omega)]; simpa using hb) (by
    simp only [cS] at hn3
    rw [if_neg (by omega)] at hn3
    simpa using hn3)
  exact h i a w (bo.eqv ⟨_, _, _, c4⟩ (fun i => by
    simp only [St.set_s, St.setB_s]) (fun e => by
    simp only [St.setB_b, St.set_b]
    split <;> rfl))
def BG {d T G : Nat} {A B : List PV} {p q : PV} {us : List Value} {gs : List PV} (hd : σ.b d = some (T, A ++ (q :: B))) (hG : σ.s G = some (RV.gh us gs)) (hp : ∀ {Fz : ay} {w : World} {v : Value} {F1 F2 : List Nat}, q.own Fz w v F1 → aL gs Fz w us F2 → ∃ F R, p.own Fz w v F ∧ (F1 ++ F2).Perm (F ++ R))
    (h : SW P n h0 w0 Fz0 c ((σ.set G none).setB d (some (T, A ++ (p :: B)))) Q) : SW P n h0 w0 Fz0 c σ Q := fun a w hc => by
  obtain ⟨φ, Fz, Fp, hc⟩ := hc
  have hg0 : aL gs Fz w us (Fp (2 * G + 1)) := hc.slot G _ hG
  have c1 := hc.pull G
  have e0 : mv Fp (2 * G + 1) 0 = Fp (2 * G + 1) ++ Fp 0 := by simp [mv]
  obtain ⟨cur, h1, h2⟩ := c1.box d _ hd
  obtain ⟨g1, g2, g3⟩ := c1.bxb d _ hd
  obtain ⟨v1, v2, F1, F2, k1, k2, k3, v, vs', E1, E2, rfl, rfl, ho, kB⟩ := h2.split
  obtain ⟨F, R, m1, m2⟩ := hp ho hg0
  have hnew : aL (A ++ (p :: B)) Fz w cur.toList (F1 ++ (F ++ E2)) := by
    rw [k1]
    exact k3.append ⟨v, vs', F, E2, rfl, rfl, m1, kB⟩
  have c2 := c1.pullB (d := d) hd
  generalize hFp1 : mv Fp (2 * G + 1) = Fp1 at c1 c2 e0 h2 g3 k2
  have hnd := c2.nod 0
  simp only [if_true] at hnd
  have em : mv Fp1 (2 * d + 2) 0 = Fp1 (2 * d + 2) ++ Fp1 0 := by simp [mv]
  have k2' : Fp1 (2 * d + 2) = F1 ++ (E1 ++ E2) := k2
  rw [em, k2', e0] at hnd
  rw [k2', e0] at em
  have hperm : (φ d :: (F1 ++ (E1 ++ E2) ++ (Fp (2 * G + 1) ++ Fp 0))).Perm ((F1 ++ (F ++ E2)) ++ φ d :: (R ++ Fp 0)) := by
    refine (List.Perm.trans ?_ List.perm_middle.symm)
    refine List.Perm.cons _ ?_
    simp only [bu]
    refine fP _ ?_
    have p1 : (E1 ++ (E2 ++ (Fp (2 * G + 1) ++ Fp 0))).Perm ((E1 ++ Fp (2 * G + 1)) ++ (E2 ++ Fp 0)) := by
      have := xJ (a := E1) (b := E2) (c := Fp (2 * G + 1)) (d := Fp 0)
      simpa only [bu] using this
    refine p1.trans ((iK _ m2).trans ?_)
    have := xJ (a := F) (b := R) (c := E2) (d := Fp 0)
    simpa only [bu] using this
  have c3 := c2.pushB (d := d) (g := φ d) (t := T) (cs := A ++ (p :: B)) (F := F1 ++ (F ++ E2)) (X := R ++ Fp 0) (by rw [St.setB_b, if_pos rfl]) h1 hnew g2
    (fun x hx => by
      simp only [if_true]
      rw [em]
      exact hperm.mem_iff.2 hx) (hperm.nodup_iff.1 hnd) (.inl rfl)
  exact h a w (bo.eqv ⟨_, _, _, c3⟩ (fun i => rfl) (fun e => by
    simp only [St.setB_b, St.set_b]
    split <;> rfl))
def Io {d T G : Nat} {cs : List PV} {ι : Type} {q : ι → List PV} {us : ι → List Value} {gs : ι → List PV} (hd : σ.b d = some (T, cs)) (hG : σ.s G = none) (hp : ∀ {Fz : ay} {w : World} {vs : List Value} {F : List Nat}, aL cs Fz w vs F → ∃ i, ∃ F1 F2, aL (q i) Fz w vs F1 ∧ aL (gs i) Fz w (us i) F2 ∧ F.Perm (F1 ++ F2))
    (h : ∀ i, SW P n h0 w0 Fz0 c ((σ.setB d (some (T, q i))).set G (some (RV.gh (us i) (gs i)))) Q) : SW P n h0 w0 Fz0 c σ Q := fun a w hc => by
  obtain ⟨φ, Fz, Fp, hc⟩ := hc
  obtain ⟨cur, h1, h2⟩ := hc.box d _ hd
  obtain ⟨g1, g2, g3⟩ := hc.bxb d _ hd
  obtain ⟨i, P1, P2, m1, m2, m3⟩ := hp h2
  have c2 := hc.pullB hd
  have hnd := c2.nod 0
  simp only [if_true] at hnd
  have em : mv Fp (2 * d + 2) 0 = Fp (2 * d + 2) ++ Fp 0 := by simp [mv]
  rw [em] at hnd
  have hperm : (φ d :: (Fp (2 * d + 2) ++ Fp 0)).Perm (P1 ++ φ d :: (P2 ++ Fp 0)) := by
    refine (List.Perm.trans ?_ List.perm_middle.symm)
    refine List.Perm.cons _ ?_
    rw [← bu]
    exact iK _ m3
  have c3 := c2.pushB (d := d) (g := φ d) (t := T) (cs := q i) (F := P1) (X := P2 ++ Fp 0) (by rw [St.setB_b, if_pos rfl]) h1 m1 g2
    (fun x hx => by
      simp only [if_true]
      rw [em]
      exact hperm.mem_iff.2 hx) (hperm.nodup_iff.1 hnd) (.inl rfl)
  have hn3 := c3.nod 0
  have c4 := c3.pushG (G := G) (F := P2) (X := Fp 0) m2 (fun b hb => by simp only [cS]; rw [if_neg (by omega)]; simpa using hb) (by
    simp only [cS] at hn3
    rw [if_neg (by omega)] at hn3
    simpa using hn3)
  exact h i a w (bo.eqv ⟨_, _, _, c4⟩ (fun i => by
    simp only [St.set_s, St.setB_s]) (fun e => by
    simp only [St.setB_b, St.set_b]
    split <;> rfl))
def Ip {d T G : Nat} {ps cs : List PV} {us : List Value} {gs : List PV} (hd : σ.b d = some (T, cs)) (hG : σ.s G = some (RV.gh us gs)) (hp : ∀ {Fz : ay} {w : World} {vs : List Value} {F1 F2 : List Nat}, aL cs Fz w vs F1 → aL gs Fz w us F2 → ∃ F R, aL ps Fz w vs F ∧ (F1 ++ F2).Perm (F ++ R))
    (h : SW P n h0 w0 Fz0 c ((σ.set G none).setB d (some (T, ps))) Q) : SW P n h0 w0 Fz0 c σ Q := fun a w hc => by
  obtain ⟨φ, Fz, Fp, hc⟩ := hc
  have hg0 : aL gs Fz w us (Fp (2 * G + 1)) := hc.slot G _ hG
  have c1 := hc.pull G
  have e0 : mv Fp (2 * G + 1) 0 = Fp (2 * G + 1) ++ Fp 0 := by simp [mv]
  obtain ⟨cur, h1, h2⟩ := c1.box d _ hd
  obtain ⟨g1, g2, g3⟩ := c1.bxb d _ hd
  obtain ⟨F, R, m1, m2⟩ := hp h2 hg0
  have c2 := c1.pullB (d := d) hd
  generalize hFp1 : mv Fp (2 * G + 1) = Fp1 at c1 c2 e0 h2 g3 m2
  have hnd := c2.nod 0
  simp only [if_true] at hnd
  have em : mv Fp1 (2 * d + 2) 0 = Fp1 (2 * d + 2) ++ Fp1 0 := by simp [mv]
  rw [em, e0] at hnd
  rw [e0] at em
  have hperm : (φ d :: (Fp1 (2 * d + 2) ++ (Fp (2 * G + 1) ++ Fp 0))).Perm (F ++ φ d :: (R ++ Fp 0)) := by
    refine (List.Perm.trans ?_ List.perm_middle.symm)
    refine List.Perm.cons _ ?_
    rw [← bu, ← bu]
    exact iK _ m2
  have c3 := c2.pushB (d := d) (g := φ d) (t := T) (cs := ps) (F := F) (X := R ++ Fp 0) (by rw [St.setB_b, if_pos rfl]) h1 m1 g2
    (fun x hx => by
      simp only [if_true]
      rw [em]
      exact hperm.mem_iff.2 hx) (hperm.nodup_iff.1 hnd) (.inl rfl)
  exact h a w (bo.eqv ⟨_, _, _, c3⟩ (fun i => rfl) (fun e => by
    simp only [St.setB_b, St.set_b]
    split <;> rfl))
def Iq {d T t e G : Nat} {α : Type} {f g : α → List PV} {fN : α × (Nat → Value) → List PV} {xss : List (List α)} {jk : List Value} (hd : σ.b d = some (T, bE (fun xs => [PV.sl (.own t e) (xs.map f)]) xss jk)) (hG : σ.s G = none) (hN : ∀ x h, fN (x, h) = eb h 0 (g x)) (hg : ∀ x, (g x).length = e) (hq : ∀ x, ao (f x) (g x)) (hb : ∀ x, aj (g x))
    (h : ∀ zss : List (List (α × (Nat → Value))), zss.map (List.map Prod.fst) = xss → SW P n h0 w0 Fz0 c ((σ.setB d (some (T, bE (fun zs => [PV.sl (.own t e) (zs.map fN)]) zss jk))).set G (some (RV.gh (bm e zss.flatten) (bK f zss.flatten)))) Q) : SW P n h0 w0 Fz0 c σ Q :=
  Io (ι := {zss : List (List (α × (Nat → Value))) // zss.map (List.map Prod.fst) = xss}) (q := fun i => bE (fun zs => [PV.sl (.own t e) (zs.map fN)]) i.1 jk) (us := fun i => bm e i.1.flatten) (gs := fun i => bK f i.1.flatten) hd hG
    (fun hh => by
      obtain ⟨zss, F1, F2, e1, e2, e3, e4⟩ := Im hN hg hq hb hh
      exact ⟨⟨zss, e1⟩, F1, F2, e2, e3, e4⟩) (fun i => h i.1 i.2)
def Ir {d T t e G : Nat} {α : Type} {f g : α → List PV} {fN : α × (Nat → Value) → List PV} {zss : List (List (α × (Nat → Value)))} {ws : List (α × (Nat → Value))} {jk : List Value} (hd : σ.b d = some (T, bE (fun zs => [PV.sl (.own t e) (zs.map fN)]) zss jk)) (hG : σ.s G = some (RV.gh (bm e ws) (bK f ws))) (hN : ∀ x h, fN (x, h) = eb h 0 (g x)) (hg : ∀ x, (g x).length = e) (hf : ∀ x, (f x).length = e) (hs : zss.flatten.Sublist ws)
    (h : SW P n h0 w0 Fz0 c ((σ.set G none).setB d (some (T, bE (fun xs => [PV.sl (.own t e) (xs.map f)]) (zss.map (List.map Prod.fst)) jk))) Q) : SW P n h0 w0 Fz0 c σ Q :=
  Ip hd hG (fun {Fz w vs F1 F2} h1 h2 => by
    obtain ⟨K, R0, hp0, k⟩ := Ij hf hs h2
    obtain ⟨F, R, e1, hp⟩ := In hN hg hf h1 k
    refine ⟨F, R ++ R0, e1, ?_⟩
    refine (fP _ hp0).trans ?_
    rw [← bu, ← bu]
    exact iK _ hp) h
end
end
section
def kD {α : Type} (f : α → PV) (z : α × Value) : List PV := [PV.nv z.2 (f z.1)]
def Is {α : Type} {f : α → PV} {Fz : ay} {w : World} : ∀ {xs : List α} {css : List Value} {F : List Nat}, cl 1 (xs.map fun x => [f x]) Fz w css F → ∃ zs : List (α × Value), zs.map Prod.fst = xs ∧ cl 1 (zs.map (kD f)) Fz w css F
  | [], css, F, h => ⟨[], rfl, h⟩
  | x :: xs, css, F, h => by
    obtain ⟨c, d, F1, F2, rfl, rfl, hl, h1, h2⟩ := h
    obtain ⟨zs, e1, e2⟩ := Is h2
    obtain ⟨v, vs', A, B, rfl, rfl, ho, hn⟩ := h1
    exact ⟨(x, v) :: zs, by rw [List.map_cons, e1], v :: vs', d, A ++ B, F2, rfl, rfl, hl, ⟨v, vs', A, B, rfl, rfl, ⟨rfl, ho⟩, hn⟩, e2⟩
def It {α : Type} {f : α → PV} {Fz : ay} {w : World} : ∀ {zs : List (α × Value)} {css : List Value} {F : List Nat}, cl 1 (zs.map (kD f)) Fz w css F → cl 1 ((zs.map Prod.fst).map fun x => [f x]) Fz w css F
  | [], css, F, h => h
  | z :: zs, css, F, h => by
    obtain ⟨c, d, F1, F2, rfl, rfl, hl, h1, h2⟩ := h
    obtain ⟨v, vs', A, B, rfl, rfl, ho, hn⟩ := h1
    exact ⟨v :: vs', d, A ++ B, F2, rfl, rfl, hl, ⟨v, vs', A, B, rfl, rfl, ho.2, hn⟩, It h2⟩
def Iu {e : Nat} {Fz : ay} {w : World} : ∀ {es : List (List PV)} {css : List Value} {F : List Nat}, cl e es Fz w css F → ∀ {k : Nat} {ps : List PV}, es[k]? = some ps → ∃ vs, bS ps Fz w vs
  | [], css, F, h, k, ps, hk => by simp at hk
  | cs :: es, css, F, h, k, ps, hk => by
    obtain ⟨c, d, F1, F2, rfl, rfl, hl, h1, h2⟩ := h
    cases k with
    | zero => simp at hk; subst hk; exact ⟨c, h1.rel⟩
    | succ k => exact Iu h2 (by simpa using hk)
def VJ {α : Type} {f : α → PV} {t : Nat} {Fz : ay} {w : World} {xs : List α} {v : Value} {F : List Nat} (h : dm t 1 (xs.map fun x => [f x]) Fz w v F) : ∃ zs : List (α × Value), zs.map Prod.fst = xs ∧ dm t 1 (zs.map (kD f)) Fz w v F := by
  obtain ⟨css, F', hrow, hll, hfz, rfl, hone⟩ := h
  obtain ⟨zs, e1, e2⟩ := Is hll
  have hlen : (zs.map (kD f)).length = (xs.map fun x => [f x]).length := by rw [aw, aw, ← e1, aw]
  exact ⟨zs, e1, css, F', by rw [hlen]; exact hrow, e2, fun g hg o => by rw [hlen]; exact hfz g hg o, rfl, hone⟩
def VK {α : Type} {f : α → PV} {t : Nat} {Fz : ay} {w : World} {zs : List (α × Value)} {v : Value} {F : List Nat} (h : dm t 1 (zs.map (kD f)) Fz w v F) : dm t 1 ((zs.map Prod.fst).map fun x => [f x]) Fz w v F := by
  obtain ⟨css, F', hrow, hll, hfz, rfl, hone⟩ := h
  have hlen : ((zs.map Prod.fst).map fun x => [f x]).length = (zs.map (kD f)).length := by simp
  exact ⟨css, F', by rw [hlen]; exact hrow, It hll, fun g hg o => by rw [hlen]; exact hfz g hg o, rfl, hone⟩
def ao.nv1 {u : Value} {p : PV} {qs : List PV} (h : ao [p] qs) : ao [PV.nv u p] qs := by
  cases qs with
  | nil => exact h
  | cons q l => exact ⟨PV.nv_to h.1, h.2⟩
def VL {α : Type} {f : α → PV} {g : α → List PV} {fl : Fl} {zs : List (α × Value)} {xs : List α} (hz : zs.map Prod.fst = xs) (h : ∀ x, ao [f x] (g x)) : (PV.sl fl (zs.map (kD f))).To (PV.sl .v (xs.map g)) := by
  subst hz
  rw [List.map_map]
  refine PV.to_map fun z => ?_
  exact ao.nv1 (h z.1)
def VM {α : Type} {zs : List (α × Value)} {xs : List α} {k : Nat} (hz : zs.map Prod.fst = xs) (hk : k < xs.length) : ∃ z, zs[k]? = some z ∧ z.1 = xs[k] := by
  subst hz
  rw [aw] at hk
  exact ⟨zs[k], List.getElem?_eq_getElem hk, by rw [List.getElem_map]⟩
section
variable {P : Program} {n : Nat} {h0 : Nat → Prop} {w0 : World} {Fz0 : ay} {σ : St} {Q : Exit → St → Prop} {c : Code}
def xL {d T : Nat} {A B : List PV} {p : PV} {ι : Type} {q : ι → PV} (hd : σ.b d = some (T, A ++ (p :: B))) (hp : ∀ {Fz : ay} {w : World} {v : Value} {F : List Nat}, p.own Fz w v F → ∃ i, (q i).own Fz w v F)
    (h : ∀ i, SW P n h0 w0 Fz0 c (σ.setB d (some (T, A ++ (q i :: B)))) Q) : SW P n h0 w0 Fz0 c σ Q := fun a w hc => by
  obtain ⟨φ, Fz, Fp, hc⟩ := hc
  obtain ⟨cur, h1, h2⟩ := hc.box d _ hd
  obtain ⟨v1, v2, F1, F2, k1, k2, k3, v, vs', E1, E2, rfl, rfl, ho, kB⟩ := h2.split
  obtain ⟨i, hi⟩ := hp ho
  refine h i a w ⟨φ, Fz, Fp, hc.rebox hd fun cur' _ hh => ?_⟩
  have : cur' = cur := by
    rw [h1] at hh
    injection hh with hh
    injection hh with hh
    exact hh.symm
  subst this
  rw [k1, k2]
  exact k3.append ⟨v, vs', E1, E2, rfl, rfl, hi, kB⟩
def VN {d T t : Nat} {A B : List PV} {α : Type} {f : α → PV} {xs : List α} (hd : σ.b d = some (T, A ++ (PV.sl (.own t 1) (xs.map fun x => [f x]) :: B)))
    (h : ∀ zs : List (α × Value), zs.map Prod.fst = xs → SW P n h0 w0 Fz0 c (σ.setB d (some (T, A ++ (PV.sl (.own t 1) (zs.map (kD f)) :: B)))) Q) : SW P n h0 w0 Fz0 c σ Q :=
  xL (ι := {zs : List (α × Value) // zs.map Prod.fst = xs}) (q := fun z => PV.sl (.own t 1) (z.1.map (kD f))) hd (fun ho => by
    obtain ⟨zs, e1, e2⟩ := VJ ho
    exact ⟨⟨zs, e1⟩, e2⟩) fun z => h z.1 z.2
def VO {d T t : Nat} {A B : List PV} {α : Type} {f : α → PV} {xs : List α} {zs : List (α × Value)} (hz : zs.map Prod.fst = xs) (hd : σ.b d = some (T, A ++ (PV.sl (.own t 1) (zs.map (kD f)) :: B)))
    (h : SW P n h0 w0 Fz0 c (σ.setB d (some (T, A ++ (PV.sl (.own t 1) (xs.map fun x => [f x]) :: B)))) Q) : SW P n h0 w0 Fz0 c σ Q :=
  xL (ι := Unit) (q := fun _ => PV.sl (.own t 1) (xs.map fun x => [f x])) hd (fun ho => ⟨(), by subst hz; exact VK ho⟩) fun _ => h
def VP {s d T t k : Nat} {A B : List PV} {α : Type} {f : α → PV} {q : α → PV} {zs : List (α × Value)} {z : α × Value} (hs : σ.s s = some (RV.sv false [PV.val z.2])) (hd : σ.b d = some (T, A ++ (PV.sl (.own t 1) (zs.map (kD f)) :: B))) (hk : zs[k]? = some z) (hq : ∀ {x}, (f x).To (q x)) (hb : ∀ {x}, (q x).Bor)
    (h : SW P n h0 w0 Fz0 c (σ.set s (some (RV.sv false [PV.nv z.2 (q z.1)]))) Q) : SW P n h0 w0 Fz0 c σ Q := fun a w hc => by
  obtain ⟨x, v⟩ := z
  obtain ⟨φ, Fz, Fp, hc⟩ := hc
  obtain ⟨cur, h1, h2⟩ := hc.box d _ hd
  obtain ⟨v1, v2, F1, F2, k1, k2, k3, u, vs', E1, E2, rfl, rfl, ho, kB⟩ := h2.split
  have ho : dm t 1 (zs.map (kD f)) Fz w u E1 := ho
  obtain ⟨css, F', hrow, hll, hfz, rfl, hone⟩ := ho
  obtain ⟨us, hu⟩ := Iu hll (k := k) (ps := kD f (x, v)) (by rw [List.getElem?_map, hk]; rfl)
  obtain ⟨u', _, rfl, hu, _⟩ := hu
  obtain ⟨rfl, hu⟩ := hu
  have hv : ct false [PV.val u'] Fz w (a.tmps.getD s undef) (Fp (2 * s + 1)) := hc.slot s _ hs
  obtain ⟨hag, y, ys, G1, G2, hy1, hF, hy, hnil, rfl⟩ := hv
  subst hnil
  have c1 := (hc.pull s).reslot (s := s) (rv := RV.sv false [PV.nv u' (q x)]) (by
    have : mv Fp (2 * s + 1) (2 * s + 1) = [] := by simp [mv]
    rw [this]
    obtain ⟨⟨rfl, hone'⟩, rfl⟩ := hy
    exact ⟨hag, y, [], [], [], hy1, rfl, ⟨rfl, hb (hq hu)⟩, rfl, rfl⟩)
  exact h a w (bo.eqv ⟨φ, Fz, _, c1⟩ (fun i => by
    simp only [St.set_s]
    split <;> rfl) (fun d => rfl))
def dt (gs : List PV) (us : List Value) (qs : List PV) (us' : List Value) : Prop := ∀ {Fz : ay} {w : World} {F : List Nat}, aL gs Fz w us F → ∃ F' R, aL qs Fz w us' F' ∧ F.Perm (F' ++ R)
def dt.nil {gs : List PV} {us : List Value} : dt gs us [] [] := fun {_ _ F} _ => ⟨[], F, ⟨rfl, rfl⟩, List.Perm.refl _⟩
def dt.keep {p : PV} {u : Value} {gs qs : List PV} {us us' : List Value} (h : dt gs us qs us') : dt (p :: gs) (u :: us) (p :: qs) (u :: us') := fun {Fz w F} k => by
  obtain ⟨v, vs, F1, F2, e1, rfl, h1, h2⟩ := k
  injection e1 with e1 e2
  subst e1 e2
  obtain ⟨F', R, h3, h4⟩ := h h2
  exact ⟨F1 ++ F', R, ⟨u, us', F1, F', rfl, rfl, h1, h3⟩, by rw [bu]; exact fP _ h4⟩
def dt.drop {p : PV} {u : Value} {gs qs : List PV} {us us' : List Value} (h : dt gs us qs us') : dt (p :: gs) (u :: us) qs us' := fun {Fz w F} k => by
  obtain ⟨v, vs, F1, F2, e1, rfl, h1, h2⟩ := k
  injection e1 with e1 e2
  subst e1 e2
  obtain ⟨F', R, h3, h4⟩ := h h2
  refine ⟨F', F1 ++ R, h3, ?_⟩
  refine (fP F1 h4).trans ?_
  rw [← bu, ← bu]
  exact iK _ jH
def dt.lit {x : Value} {gs qs : List PV} {us us' : List Value} (hx : x.oneCell' = true) (h : dt gs us qs us') : dt gs us (PV.val x :: qs) (x :: us') := fun {Fz w F} k => by
  obtain ⟨F', R, h3, h4⟩ := h k
  exact ⟨F', R, ⟨x, us', [], F', rfl, rfl, ⟨⟨rfl, hx⟩, rfl⟩, h3⟩, h4⟩
def Iv {e : Nat} {ps : List PV} {Fz : ay} {w : World} : ∀ {es : List (List PV)} {css : List Value} {F : List Nat}, cl e (es ++ [ps]) Fz w css F → ∃ c1 c2 Fa Fb, css = c1 ++ c2 ∧ F = Fa ++ Fb ∧ c2.length = e ∧ cl e es Fz w c1 Fa ∧ aL ps Fz w c2 Fb
  | [], css, F, h => by
    obtain ⟨c, d, F1, F2, rfl, rfl, hl, h1, rfl, rfl⟩ := h
    exact ⟨[], c, [], F1, by simp, by simp, hl, ⟨rfl, rfl⟩, h1⟩
  | x :: es, css, F, h => by
    obtain ⟨c, d, F1, F2, rfl, rfl, hl, h1, h2⟩ := h
    obtain ⟨c1, c2, Fa, Fb, rfl, rfl, h3, h4, h5⟩ := Iv h2
    exact ⟨c ++ c1, c2, F1 ++ Fa, Fb, by simp, by simp, h3, ⟨c, c1, F1, Fa, rfl, rfl, hl, h1, h4⟩, h5⟩
def Iw {e : Nat} {ps : List PV} {Fz : ay} {w : World} {c2 : List Value} {Fb : List Nat} (hl : c2.length = e) (h5 : aL ps Fz w c2 Fb) : ∀ {es : List (List PV)} {c1 : List Value} {Fa : List Nat}, cl e es Fz w c1 Fa → cl e (es ++ [ps]) Fz w (c1 ++ c2) (Fa ++ Fb)
  | [], c1, Fa, h => by
    obtain ⟨rfl, rfl⟩ := h
    exact ⟨c2, [], Fb, [], by simp, by simp, hl, h5, rfl, rfl⟩
  | x :: es, c1, Fa, h => by
    obtain ⟨c, d, F1, F2, rfl, rfl, hl', h1, h2⟩ := h
    exact ⟨c, d ++ c2, F1, F2 ++ Fb, by simp, by simp, hl', h1, Iw hl h5 h2⟩
def Ix {t e : Nat} {es : List (List PV)} {ps qs gs : List PV} {us us' : List Value} (hn : Nm ps us') (hs : dt gs us qs us') {Fz : ay} {w : World} {v : Value} {F1 F2 : List Nat} (h : (PV.sl (.own t e) (es ++ [ps])).own Fz w v F1) (k : aL gs Fz w us F2) : ∃ F R, (PV.sl (.own t e) (es ++ [qs])).own Fz w v F ∧ (F1 ++ F2).Perm (F ++ R) := by
  have h : dm t e (es ++ [ps]) Fz w v F1 := h
  obtain ⟨css, F', hrow, hll, hfz, rfl, hone⟩ := h
  obtain ⟨c1, c2, Fa, Fb, rfl, rfl, hl, h4, h5⟩ := Iv hll
  obtain rfl : c2 = us' := hn h5.rel
  obtain ⟨F'', R, h6, h7⟩ := hs k
  have hlen : (es ++ [qs]).length = (es ++ [ps]).length := by simp
  refine ⟨v.ownBlock.toList ++ (Fa ++ F''), Fb ++ R, ⟨c1 ++ c2, Fa ++ F'', by rw [hlen]; exact hrow, Iw hl h6 h4, fun g hg o => by rw [hlen]; exact hfz g hg o, rfl, hone⟩, ?_⟩
  simp only [bu]
  refine fP _ (fP _ ?_)
  refine (fP Fb h7).trans ?_
  rw [← bu, ← bu]
  exact iK _ jH
end
end
section
def Iy {α : Type} {f : α → List PV} {e : Nat} (hf : ∀ x, (f x).length = e) {Fz : ay} {w : World} {ys rs zs : List (α × (Nat → Value))} (hp : (ys ++ rs).Perm zs) {F : List Nat} (h : aL (bK f zs) Fz w (bm e zs) F) : ∃ F' R, F.Perm (F' ++ R) ∧ aL (bK f ys) Fz w (bm e ys) F' := by
  obtain ⟨F1, k1, k2⟩ := Vt hf hp.symm h
  obtain ⟨F', R, k3, k4⟩ := Ij hf (List.sublist_append_left ys rs) k2
  exact ⟨F', R, k1.trans k3, k4⟩
def VQ {α : Type} {f g : α → List PV} {fN : α × (Nat → Value) → List PV} {t e : Nat} (hN : ∀ x h, fN (x, h) = eb h 0 (g x)) (hg : ∀ x, (g x).length = e) (hf : ∀ x, (f x).length = e) {ys rs zs : List (α × (Nat → Value))} (hp : (ys ++ rs).Perm zs) {xs : List α} (hx : ys.map Prod.fst = xs) {Fz : ay} {w : World} {v : Value} {F1 F2 : List Nat} (h : (PV.sl (.own t e) (ys.map fN)).own Fz w v F1) (k : aL (bK f zs) Fz w (bm e zs) F2) :
    ∃ F R, (PV.sl (.own t e) (xs.map f)).own Fz w v F ∧ (F1 ++ F2).Perm (F ++ R) := by
  subst hx
  obtain ⟨F', R, k1, k2⟩ := Iy hf hp k
  have h : dm t e (ys.map fN) Fz w v F1 := h
  have h2 := Ik hN hg hf h k2
  obtain ⟨F3, rfl⟩ := Il h
  refine ⟨_, F3 ++ R, h2, ?_⟩
  simp only [bu]
  refine fP _ ?_
  refine (fP F3 k1).trans ?_
  rw [← bu, ← bu]
  exact iK _ jH
section
variable {P : Program} {n : Nat} {h0 : Nat → Prop} {w0 : World} {Fz0 : ay} {σ : St} {Q : Exit → St → Prop} {c : Code}
def Iz {d t e G : Nat} {α : Type} {f g : α → List PV} {fN : α × (Nat → Value) → List PV} (x : α) (hd : σ.b d = some (t, f x)) (hG : σ.s G = none) (hN : ∀ x h, fN (x, h) = eb h 0 (g x)) (hg : ∀ x, (g x).length = e) (hq : ao (f x) (g x)) (hb : aj (g x))
    (h : ∀ k : Nat → Value, SW P n h0 w0 Fz0 c ((σ.setB d (some (t, fN (x, k)))).set G (some (RV.gh (bm e [(x, k)]) (bK f [(x, k)])))) Q) : SW P n h0 w0 Fz0 c σ Q :=
  Io (ι := Nat → Value) (q := fun k => fN (x, k)) (us := fun k => bm e [(x, k)]) (gs := fun k => bK f [(x, k)]) hd hG (fun {Fz w vs F} ho => by
    have hl : vs.length = e := by rw [ho.len, hq.len, hg]
    obtain ⟨k, hk⟩ := By hl
    refine ⟨k, [], F, ?_, ?_, List.Perm.refl _⟩
    · rw [hN, xE, hg, ← List.range_eq_range', ← hk]
      exact xD hb (hq.rel ho.rel)
    · have : bm e [(x, k)] = vs := by simp [bm, hk]
      rw [this]
      have : bK f [(x, k)] = f x := by simp [bK]
      rw [this]; exact ho) h
def BH {d T t e G : Nat} {A B : List PV} {α : Type} {f g : α → List PV} {fN : α × (Nat → Value) → List PV} {ys zs : List (α × (Nat → Value))} (rs : List (α × (Nat → Value))) (xs : List α) (hd : σ.b d = some (T, A ++ (PV.sl (.own t e) (ys.map fN) :: B))) (hG : σ.s G = some (RV.gh (bm e zs) (bK f zs))) (hN : ∀ x h, fN (x, h) = eb h 0 (g x)) (hg : ∀ x, (g x).length = e) (hf : ∀ x, (f x).length = e) (hp : (ys ++ rs).Perm zs) (hx : ys.map Prod.fst = xs)
    (h : SW P n h0 w0 Fz0 c ((σ.set G none).setB d (some (T, A ++ (PV.sl (.own t e) (xs.map f) :: B)))) Q) : SW P n h0 w0 Fz0 c σ Q :=
  BG hd hG (fun h1 k => VQ hN hg hf hp hx h1 k) h
def VR {d t e G : Nat} {α : Type} {f g : α → List PV} {fN : α × (Nat → Value) → List PV} {zs ys : List (α × (Nat → Value))} {jk : List Value} (rs : List (α × (Nat → Value))) (xs : List α) (hd : σ.b d = some (t, bE fN ys jk)) (hG : σ.s G = some (RV.gh (bm e zs) (bK f zs))) (hN : ∀ x h, fN (x, h) = eb h 0 (g x)) (hg : ∀ x, (g x).length = e) (hf : ∀ x, (f x).length = e) (hp : (ys ++ rs).Perm zs) (hx : ys.map Prod.fst = xs)
    (h : SW P n h0 w0 Fz0 c ((σ.set G none).setB d (some (t, bE f xs jk))) Q) : SW P n h0 w0 Fz0 c σ Q :=
  Ip hd hG (fun {Fz w vs F1 F2} h1 k => by
    subst hx
    obtain ⟨F', R, k1, k2⟩ := Iy hf hp k
    obtain ⟨us, hu, hvs⟩ := Bz hN hg (zs := ys) (js := jk.map PV.val) h1.rel
    have hju : aL (jk.map PV.val) Fz w us [] := aj.own (fun p hp => by obtain ⟨v, _, rfl⟩ := List.mem_map.1 hp; exact PV.bor_val _) hvs
    have hall : aL (bE f (ys.map Prod.fst) jk) Fz w vs F' := by
      have := k2.append hju
      rw [dP, ← hu] at this
      have e2 : bE f (ys.map Prod.fst) jk = bK f ys ++ jk.map PV.val := by unfold bE bK; rw [List.map_map]; rfl
      rw [e2]; exact this
    refine ⟨F', F1 ++ R, hall, ?_⟩
    refine (fP F1 k1).trans ?_
    rw [← bu, ← bu]
    exact iK _ jH) h
end
section
variable {P : Program} {n : Nat} {h0 : Nat → Prop} {w0 : World} {Fz0 : ay} {σ : St} {Q : Exit → St → Prop} {c : Code}
def xM {s : Nat} {r r' : RV} (hs : σ.s s = some r) (he : r = r') (h : SW P n h0 w0 Fz0 c (σ.set s (some r')) Q) : SW P n h0 w0 Fz0 c σ Q := fun a w hc => by
  subst he
  obtain ⟨φ, Fz, Fp, hc⟩ := hc
  exact h a w ⟨φ, Fz, Fp, hc.reslot (hc.slot s _ hs)⟩
def VS {d T : Nat} {A B : List PV} {p : PV} (hd : σ.b d = some (T, A ++ (p :: B))) (h : ∀ v : Value, SW P n h0 w0 Fz0 c (σ.setB d (some (T, A ++ (PV.nv v p :: B)))) Q) : SW P n h0 w0 Fz0 c σ Q :=
  xL (ι := Value) (q := fun v => PV.nv v p) hd (fun {Fz w v F} ho => ⟨v, rfl, ho⟩) h
def VT {d T : Nat} {A B : List PV} {v : Value} {p : PV} (hd : σ.b d = some (T, A ++ (PV.nv v p :: B))) (h : SW P n h0 w0 Fz0 c (σ.setB d (some (T, A ++ (p :: B)))) Q) : SW P n h0 w0 Fz0 c σ Q :=
  xL (ι := Unit) (q := fun _ => p) hd (fun ho => ⟨(), ho.2⟩) fun _ => h
def VU {d T G : Nat} {A B : List PV} {v : Value} {p q : PV} (hd : σ.b d = some (T, A ++ (PV.nv v p :: B))) (hG : σ.s G = none) (hq : p.To q) (hb : q.Bor)
    (h : SW P n h0 w0 Fz0 c ((σ.setB d (some (T, A ++ (q :: B)))).set G (some (RV.gh [v] [p]))) Q) : SW P n h0 w0 Fz0 c σ Q :=
  VI (G := G) (ι := Unit) (q := fun _ => q) (us := fun _ => [v]) (gs := fun _ => [p]) hd hG (fun {Fz w v' F} ho => by
    obtain ⟨rfl, ho⟩ := ho
    exact ⟨(), [], F, hb (hq (p.toRel ho)), ⟨v', [], F, [], rfl, by simp, ho, rfl, rfl⟩, by simp⟩) fun _ => h
end
def BI (P : Program) (T : TypeId) (f : Nat) : Option (Nat × TypeId) := match P.underlying T with
  | some (.struct fs) => (fs[f]?).map fun fd => (fd.offset, fd.type)
  | _ => none
def VV {P : Program} {n : Nat} {T ft s d f off : Nat} {ty : TypeId} {pos : String} {af : Array Edge} {g : Option (Nat × Bool)} {ag : Bool} {k : Nat} {cs qs : List PV} (hd : d < n) (hF : BI P T f = some (off, ft)) (hT : cO P ft = some (ag, k)) (h1 : ag = false → k = 1) (hk : off + k ≤ cs.length) (hq : (cs.drop off).take k = qs) :
    Loc P n ⟨some d, .field T (.tmp s) f, ty, pos, af, g⟩ ⟨[(s, RV.sv true cs)], [], [(s, none), (d, some (RV.sv ag qs))], [], none⟩ := by
  intro h0 w0 Fz0 σ a w K Q hc hr _ _ h5
  obtain ⟨φ, Fz, Fp, hc⟩ := hc
  subst hq
  have hv : ct true cs Fz w (a.tmps.getD s undef) (Fp (2 * s + 1)) := hc.slot s _ hr.1
  obtain ⟨hag, ho⟩ := hv
  generalize hx : a.tmps.getD s undef = x at hag ho
  obtain ⟨vals, rfl⟩ : ∃ vals, x = .agg vals := by cases x <;> simp [mZ] at hag; exact ⟨_, rfl⟩
  have hcells : (Value.agg vals).cells.toList = vals.toList := rfl
  rw [hcells] at ho
  obtain ⟨F1, F2, F3, eF, o1, o2, o3⟩ := ho.seg off k hk
  have hl : vals.toList.length = cs.length := ho.len
  obtain ⟨v, e1, e2⟩ : ∃ v, (part ft vals off).run P w = .ok v w ∧ ct ag ((cs.drop off).take k) Fz w v F2 := by
    obtain ⟨t1, t2⟩ := Bc hT w
    cases ag with
    | true =>
      refine ⟨.agg (vals.extract off (off + k)), ?_, rfl, ?_⟩
      · simp only [part, Sem.run_bind, t1, t2, Result.andThen_ok, if_true, Sem.run_pure]
      · show aL _ Fz w (vals.extract off (off + k)).toList F2
        have : (vals.extract off (off + k)).toList = (vals.toList.drop off).take k := by
          rw [Array.toList_extract, List.extract_eq_take_drop]; congr 1; omega
        rw [this]; exact o2
    | false =>
      have hk1 := h1 rfl
      subst hk1
      have hlt : off < vals.size := by have : vals.toList.length = vals.size := by simp
                                       omega
      have hget : vals[off]? = some vals[off] := by simp [hlt]
      have hdt : (vals.toList.drop off).take 1 = [vals[off]] := by
        rw [List.drop_eq_getElem_cons (by simpa using hlt)]; simp
      rw [hdt] at o2
      have hone := o2.one vals[off] (by simp)
      refine ⟨vals[off], ?_, ?_⟩
      · simp only [part, Sem.run_bind, t1, Result.andThen_ok, hget]
        simp [Sem.run_pure]
      · have hc1 : vals[off].cells.toList = [vals[off]] ∧ mZ vals[off] = false := by
          cases hv : vals[off] <;> rw [hv] at hone <;> simp_all [Value.oneCell', Value.cells, mZ]
        exact ⟨hc1.2, by rw [hc1.1]; exact o2⟩
  have c1 := hc.pull s
  have hm0 : mv Fp (2 * s + 1) 0 = Fp (2 * s + 1) ++ Fp 0 := by simp [mv]
  have hnd := c1.nod 0
  rw [hm0, eF] at hnd
  have c2 := c1.push (i := d) (rv := RV.sv ag ((cs.drop off).take k)) (v := v) (F := F2) (X := []) hd e2 (fun b hb => by
      rw [hm0, eF]
      simp only [dP] at hb
      simp [hb]) (by
      rw [dP]
      simp only [cE] at hnd
      exact hnd.1.2.1.1)
  refine ek (v := v) (w' := w) ?_ (h5 _ _ (bo.eqv ⟨_, _, _, c2⟩ (fun j => rfl) (fun e => rfl)))
  have hs' : a.eval (.tmp s) = .agg vals := hx
  unfold execOp
  unfold BI at hF
  split at hF
  · rename_i fs hu
    obtain ⟨fd, hfd, hfe⟩ := Option.map_eq_some_iff.1 hF
    simp only [Prod.mk.injEq] at hfe
    obtain ⟨rfl, rfl⟩ := hfe
    simp only [Instr.field, hs', Sem.run_bind, run_underlying hu, Result.andThen_ok, hfd, asAgg, Sem.run_pure, e1]
  · cases hF
def iS (e : Nat) (u : Value) (lo len : Nat) : Value := match u with
  | .slice (some ⟨b, o, q⟩) _ c => .slice (if c = lo then some ⟨b, o, q⟩ else some ⟨b, o + lo * e, q⟩) len (c - lo)
  | v => v
def BJ {e g m c lo len : Nat} : iS e (.slice (some ⟨g, 0, none⟩) m c) lo len = .slice (some ⟨g, if c = lo then 0 else lo * e, none⟩) len (c - lo) := by
  unfold iS
  dsimp only
  split <;> simp
def IA (h : Nat → Value) : ∀ {ps : List PV} {i : Nat}, aj ps → aj (eb h i ps)
  | [], _, hb => hb
  | p :: ps, i, hb => aj.cons (PV.bor_nv (hb p List.mem_cons_self)) (IA h fun q hq => hb q (List.mem_cons_of_mem _ hq))
def nj {α : Type} (e : Nat) (zs : List (α × (Nat → Value))) (jk : List Value) : List Value := (bm e zs ++ jk).drop ((zs.length - 1) * e)
def eE {α : Type} (zs : List α) (i : Nat) : List α := zs.take i ++ zs.drop (i + 1)
def BK {α : Type} {zs : List α} {i : Nat} (h : i < zs.length) : (eE zs i).length = zs.length - 1 := by
  unfold eE; rw [aM, bv, fH]; omega
def lg {α : Type} {e : Nat} : ∀ {zs : List (α × (Nat → Value))}, (bm e zs).length = zs.length * e
  | [] => by simp [bm]
  | z :: zs => by
    have : bm e (z :: zs) = (List.range e).map z.2 ++ bm e zs := rfl
    rw [this, aM, lg, aw, List.length_range, List.length_cons, Nat.succ_mul]; omega
def VW {α : Type} {e cp m : Nat} {zs : List (α × (Nat → Value))} {jk : List Value} (hz : zs.length = m) (hm : 0 < m) (hj : m * e + jk.length = cp * e) : (m - 1) * e + (nj e zs jk).length = cp * e := by
  unfold nj
  have h1 : (m - 1) * e ≤ m * e := Nat.mul_le_mul_right _ (by omega)
  rw [fH, aM, lg, hz]
  omega
section
variable {P : Program} {n : Nat}
def IB {T E e bs d s G D m cp i j : Nat} {lo hi : Option Operand} {ty : TypeId} {pos : String} {af : Array Edge} {g : Option (Nat × Bool)} {u : Value} {q r : Int} (hd : d < n) (hT : eC P T = some (E, e, bs))
    (hlo : uH lo (i = 0) (RV.int q)) (hhi : uH hi (j = m) (RV.int r)) (hq : q = (i : Int)) (hr : r = (j : Int)) (hij : i ≤ j) (hj : j ≤ m) :
    Loc P n ⟨some d, .slice T (.tmp s) lo hi none, ty, pos, af, g⟩ ⟨(s, RV.sc u) :: (G, RV.gat u D m cp) :: (xt lo (RV.int q) ++ xt hi (RV.int r)), [], [(d, some (RV.sc (iS e u i (j - i))))], [], none⟩ := by
  subst hq hr
  intro h0 w0 Fz0 σ a w K Q hc hr _ _ h5
  obtain ⟨φ, Fz, Fp, hc⟩ := hc
  obtain ⟨⟨eu, hmc, hcx⟩, _⟩ := hc.slot G _ hr.2.1
  have ev := (hc.one_ hr.1).1
  obtain ⟨hu, inf, hinf, hsz, _⟩ := nR hT
  have es' : a.eval (.tmp s) = .slice (some ⟨φ D, 0, none⟩) m cp := by rw [← eu]; exact ev
  have hlo' : lo.map a.eval = (lo.map fun _ => (.int .i64 (i : Int) : Value)) := by
    cases lo with
    | none => rfl
    | some x => exact congrArg some (hc.sc hr.2.2.left hlo)
  have hhi' : hi.map a.eval = (hi.map fun _ => (.int .i64 (j : Int) : Value)) := by
    cases hi with
    | none => rfl
    | some x => exact congrArg some (hc.sc hr.2.2.right hhi)
  have e1 : iS e u i (j - i) = .slice (if cp = i then some ⟨φ D, 0, none⟩ else (some ⟨φ D, 0, none⟩ : Option Addr).map (·.add (i * e))) (j - i) (cp - i) := by
    rw [eu]
    unfold iS
    dsimp only
    split <;> simp [mo]
  refine ek (v := iS e u i (j - i)) (w' := w) ?_ (h5 _ _ (hc.put0 hd (ct.of_sc (by rw [e1]; rfl))))
  rw [e1]
  unfold execOp
  have hb : (Instr.sliceBounds true m cp (lo.map a.eval) (hi.map a.eval) none).run P w = .ok (i, j, cp) w := by
    rw [hlo', hhi']
    have b1 : (0 : Int) ≤ (j : Int) ∧ (j : Int) ≤ (cp : Int) := by omega
    have b2 : (0 : Int) ≤ (i : Int) ∧ (i : Int) ≤ (j : Int) := by omega
    cases lo <;> cases hi <;> simp only [uH] at hlo hhi <;> simp [Instr.sliceBounds, Instr.sliceBound, asIntOf, b1, b2, *] <;> omega
  simp only [Instr.sliceAt, Instr.slice, es', Sem.run_bind, run_underlying hu, Result.andThen_ok, Option.map_none, hb, sizeOf, typeInfo, run_program, hinf, hsz, Sem.run_pure]
def VX {t d s x G D E e bs m cp i : Nat} {ty : TypeId} {pos : String} {af : Array Edge} {gd : Option (Nat × Bool)} {u : Value} {α : Type} {g : α → List PV} {fN : α × (Nat → Value) → List PV} {zs : List (α × (Nat → Value))} {jk : List Value} (hd : d < n) (hT : eC P t = some (E, e, bs)) (he : 0 < e) (hN : ∀ x h, fN (x, h) = eb h 0 (g x)) (hg : ∀ x, (g x).length = e) (hb : ∀ x, aj (g x)) (hz : zs.length = m) (hi : i < m) (hj : m * e + jk.length = cp * e) (hdG : Nat.beq d G = false) :
    Loc P n ⟨some d, .call { callee := .builtin .append, args := #[.tmp s, .tmp x], argTypes := #[t, t] }, ty, pos, af, gd⟩ ⟨[(s, RV.sc (iS e u 0 (i - 0))), (x, RV.sc (iS e u (i + 1) (m - (i + 1)))), (G, RV.gat u D m cp)], [(D, (E, bE fN zs jk))], [(d, some (RV.sc (iS e u 0 (m - 1)))), (G, some (RV.gat (iS e u 0 (m - 1)) D (m - 1) cp))], [(D, some (E, bE fN (eE zs i) (nj e zs jk)))], none⟩ := by
  intro h0 w0 Fz0 σ a w K Q hc hr hrb _ h5
  obtain ⟨φ, Fz, Fp, hc⟩ := hc
  obtain ⟨⟨eu, hmc, hcx⟩, _⟩ := hc.slot G _ hr.2.2.1
  have ev := (hc.one_ hr.1).1
  have ex := (hc.one_ hr.2.1).1
  obtain ⟨hu, inf, hinf, hsz, _⟩ := nR hT
  subst hz
  have hbs : σ.b D = some (E, bE fN zs jk) := hrb.1
  obtain ⟨cur, hgc, ho⟩ := hc.box D _ hbs
  obtain ⟨k1, k2, k3⟩ := hc.bxb D _ hbs
  have hone := ho.one
  obtain ⟨us, hus, hvs⟩ := Bz hN hg (zs := zs) (js := jk.map PV.val) ho.rel
  have huj : us = jk := by
    have hk : ∀ (l : List Value) (us : List Value), bS (l.map PV.val) Fz w us → us = l := by
      intro l
      induction l with
      | nil => intro us h; exact h
      | cons v l ih =>
        intro us h
        obtain ⟨v', vs', rfl, h1, h2⟩ := h
        rw [ih _ h2, h1.1]
    exact hk _ _ hvs
  subst huj
  generalize hA : zs.take i = A
  generalize hB : zs.drop (i + 1) = B
  have hzs : zs = A ++ (zs[i] :: B) := by rw [← hA, ← hB, ← List.drop_eq_getElem_cons hi, fg]
  have hAl : A.length = i := by rw [← hA, bv]; omega
  have hBl : B.length = zs.length - (i + 1) := by rw [← hB, fH]
  have hval : bm e zs = bm e A ++ ((List.range e).map zs[i].2 ++ bm e B) := by
    conv => lhs; rw [hzs]
    rw [sq]; rfl
  have hcl : cur.toList.length = cp * e := by rw [hus, aM, lg]; exact hj
  have hcs : cur.size = cp * e := by rw [← hcl]; simp
  have hnl : (bm e B).length = (zs.length - (i + 1)) * e := by rw [lg, hBl]
  have hoff : (i + 1) * e + (bm e B).length = zs.length * e := by rw [hnl, ← Nat.add_mul]; congr 1; omega
  have hcell : ∀ j v, (bm e B)[j]? = some v → w.cell? ((⟨φ D, if cp = i + 1 then 0 else (i + 1) * e, none⟩ : Addr).add j) = some v := by
    intro j v hv
    have hjl := (List.getElem?_eq_some_iff.1 hv).1
    have hne : ¬ cp = i + 1 := by
      intro e'
      have : zs.length ≤ i + 1 := by omega
      have : B.length = 0 := by omega
      rw [lg, this] at hjl; omega
    rw [if_neg hne, mo]
    have hq := cell_of_row w (φ D) ((i + 1) * e + j) cur E (0, 0) hgc
    have hq2 : w.cell? ⟨φ D, (i + 1) * e + j, none⟩ = cur.toList[(i + 1) * e + j]? := by rw [hq]; simp
    rw [hq2, hus, hval]
    rw [List.getElem?_append_left (by simp only [aM, aw, List.length_range, lg, hAl]; rw [lg] at hjl; have := Nat.add_mul i 1 e; omega)]
    rw [List.getElem?_append_right (by rw [lg, hAl]; have := Nat.add_mul i 1 e; omega), List.getElem?_append_right (by rw [lg, hAl]; simp only [aw, List.length_range]; have := Nat.add_mul i 1 e; omega)]
    rw [← hv]
    congr 1
    rw [lg, hAl]; simp only [aw, List.length_range]; have := Nat.add_mul i 1 e; omega
  have h1 : ∀ v ∈ bm e B, v.oneCell' = true := fun v hv => hone v (by rw [hus, hval]; simp [hv])
  have hroom : i + (zs.length - (i + 1)) ≤ cp := by omega
  have hfit : i * inf.size + (bm e B).length ≤ cur.size := by rw [hsz, hnl, hcs, ← Nat.add_mul]; exact Nat.mul_le_mul_right _ hroom
  have hrun := run_append_room (P := P) w t ty E inf hu hinf (φ D) i cp cur hgc ⟨φ D, if cp = i + 1 then 0 else (i + 1) * e, none⟩ (zs.length - (i + 1)) (cp - (i + 1)) (bm e B) (by rw [hnl, hsz]) hcell h1 hroom hfit
  rw [hsz] at hrun
  have hs1 : a.eval (.tmp s) = .slice (some ⟨φ D, 0, none⟩) i cp := by
    have : a.eval (.tmp s) = iS e u 0 (i - 0) := ev
    rw [this, eu, BJ]
    simp
  have hs2 : a.eval (.tmp x) = .slice (some ⟨φ D, if cp = i + 1 then 0 else (i + 1) * e, none⟩) (zs.length - (i + 1)) (cp - (i + 1)) := by
    have : a.eval (.tmp x) = iS e u (i + 1) (zs.length - (i + 1)) := ex
    rw [this, eu, BJ]
  have hres : iS e u 0 (zs.length - 1) = .slice (some ⟨φ D, 0, none⟩) (i + (zs.length - (i + 1))) cp := by
    rw [eu, BJ, show i + (zs.length - (i + 1)) = zs.length - 1 by omega]
    simp
  have hidx : i + (zs.length - (i + 1)) = zs.length - 1 := by omega
  have c1 := hc.pullB hbs
  generalize hFp1 : (fun x => if x = 0 then φ D :: mv Fp (2 * D + 2) 0 else mv Fp (2 * D + 2) x) = Fp1 at c1
  have e0 : Fp1 0 = φ D :: (Fp (2 * D + 2) ++ Fp 0) := by rw [← hFp1]; simp [mv]
  generalize hcur : (cur.toList.take (i * e) ++ bm e B ++ cur.toList.drop (i * e + (bm e B).length)).toArray = cur' at hrun
  have hw : (w.setRow (φ D) cur').heap.size = w.heap.size := size_setRow _ _ _
  have hset : (w.setRow (φ D) cur').heap[φ D]? = some (.cells cur' E (0, 0)) := setRow_heap w (φ D) cur _ E _ hgc
  have hoth : ∀ i, i ≠ φ D → (w.setRow (φ D) cur').heap[i]? = w.heap[i]? := fun i hi => setRow_other w (φ D) i _ hi
  have hkeep : fQ Fz w Fz (w.setRow (φ D) cur') := fun i o hio => ⟨hio, World.cell?_of_block (hoth i fun e => k2 o (e ▸ hio))⟩
  have c2 := c1.world (w' := w.setRow (φ D) cur') (Fz' := Fz) (X := Fp1 0) rfl rfl rfl (by omega)
    (fun i hi hi0 => ⟨hoth i fun e => hi0 (by rw [e, e0]; simp), fun o ho => ho⟩) hkeep (fun i o hio => by rw [hw]; exact hc.fzl i o hio)
    (fun i hi => .inl hi) (c1.nod 0)
  have hlist : cur'.toList = bm e (eE zs i) ++ nj e zs us := by
    rw [← hcur]
    show cur.toList.take (i * e) ++ bm e B ++ cur.toList.drop (i * e + (bm e B).length) = _
    unfold eE nj
    rw [hA, hB, sq, ← hus]
    have t1 : cur.toList.take (i * e) = bm e A := by
      rw [hus, hval, bu]
      exact List.take_left' (by rw [lg, hAl])
    rw [t1, hnl, ← Nat.add_mul, show i + (zs.length - (i + 1)) = zs.length - 1 by omega]
  have hrel := ho.rel.mono hkeep
  have hnew : aL (bE fN (eE zs i) (nj e zs us)) Fz (w.setRow (φ D) cur') cur'.toList [] := by
    rw [hlist]
    unfold bE
    have hr1 : bS ((zs.map fN).flatten) Fz (w.setRow (φ D) cur') (bm e zs) := by
      obtain ⟨v1, v2, q1, q2, q3⟩ := bS.split (show bS ((zs.map fN).flatten ++ us.map PV.val) Fz (w.setRow (φ D) cur') cur.toList from hrel)
      rw [hus] at q1
      have := List.append_inj q1 (by
        have hl1 := q2.len
        rw [hl1, lg]
        have : ∀ l : List (α × (Nat → Value)), (l.map fN).flatten.length = l.length * e := by
          intro l
          induction l with
          | nil => simp
          | cons z l ih =>
            rw [List.map_cons, List.flatten_cons, aM, ih, List.length_cons, Nat.succ_mul, show fN z = eb z.2 0 (g z.1) from hN z.1 z.2]
            have : ∀ (ps : List PV) (i : Nat), (eb z.2 i ps).length = ps.length := by
              intro ps
              induction ps with
              | nil => intro i; rfl
              | cons p ps ih => intro i; simp [eb, ih]
            rw [this, hg]; omega
        rw [this])
      rw [this.1]; exact q2
    rw [hzs, bj, List.flatten_append, List.map_cons, List.flatten_cons, sq] at hr1
    obtain ⟨v1, v2, q1, q2, q3⟩ := bS.split hr1
    obtain ⟨v3, v4, q4, q5, q6⟩ := bS.split q3
    have hfl : ∀ l : List (α × (Nat → Value)), (l.map fN).flatten.length = l.length * e := by
      intro l
      induction l with
      | nil => simp
      | cons z l ih =>
        rw [List.map_cons, List.flatten_cons, aM, ih, List.length_cons, Nat.succ_mul, show fN z = eb z.2 0 (g z.1) from hN z.1 z.2]
        have : ∀ (ps : List PV) (i : Nat), (eb z.2 i ps).length = ps.length := by
          intro ps
          induction ps with
          | nil => intro i; rfl
          | cons p ps ih => intro i; simp [eb, ih]
        rw [this, hg]; omega
    have hfz : (fN zs[i]).length = e := by have := hfl [zs[i]]; simpa using this
    obtain ⟨rfl, hv2⟩ := List.append_inj q1 (by rw [q2.len, hfl, lg])
    have hv2 : (List.range e).map zs[i].2 ++ bm e B = v2 := hv2
    rw [q4] at hv2
    obtain ⟨_, rfl⟩ := List.append_inj hv2 (by rw [q5.len, hfz]; simp)
    have hrB : bS (((eE zs i).map fN).flatten) Fz (w.setRow (φ D) cur') (bm e (eE zs i)) := by
      unfold eE
      rw [hA, hB, bj, List.flatten_append, sq]
      exact q2.append q6
    have hbor : aj ((eE zs i).map fN).flatten := by
      intro p hp
      obtain ⟨l, hl, hp⟩ := List.mem_flatten.1 hp
      obtain ⟨z, _, rfl⟩ := List.mem_map.1 hl
      rw [show fN z = eb z.2 0 (g z.1) from hN z.1 z.2] at hp
      exact IA z.2 (hb z.1) p hp
    have hoj : aL ((nj e zs us).map PV.val) Fz (w.setRow (φ D) cur') (nj e zs us) [] := uA fun v hv => hone v (by
      unfold nj at hv
      rw [← hus] at hv
      exact List.mem_of_mem_drop hv)
    have := (hbor.own hrB).append hoj
    rwa [dP] at this
  have c3 := c2.pushB (d := D) (g := φ D) (t := E) (cs := bE fN (eE zs i) (nj e zs us)) (F := []) (X := Fp 0) (by rw [St.setB_b, if_pos rfl]) hset hnew k2
    (fun x hx => by
      simp only [if_true]
      rw [e0]
      simp only [List.nil_append, iq, eT] at hx ⊢
      rcases hx with hx | hx
      · exact .inl hx
      · exact .inr (.inr hx))
    (by
      have hnd := c1.nod 0
      rw [e0] at hnd
      simp only [List.nil_append]
      rw [gO] at hnd ⊢
      exact ⟨fun hh => hnd.1 (by simp [hh]), (List.nodup_append.1 hnd.2).2.1⟩) (.inl rfl)
  have c4 := (c3.pull G).reslot (s := G) (rv := RV.gat (iS e u 0 (zs.length - 1)) D (zs.length - 1) cp) ⟨⟨hres.trans (by rw [hidx]; simp), by omega, hcx⟩, by simp [mv]⟩
  have c5 := c4.put0 (d := d) (r := RV.sc (iS e u 0 (zs.length - 1))) (v := iS e u 0 (zs.length - 1)) hd (ct.of_sc (by rw [hres]; rfl))
  refine ek (v := iS e u 0 (zs.length - 1)) (w' := w.setRow (φ D) cur') ?_ (h5 _ _ (bo.eqv c5 (fun k => ?_) (fun k => ?_)))
  · rw [hres]
    have es' : a.eval (.tmp s) = a.tmps.getD s undef := rfl
    have ex' : a.eval (.tmp x) = a.tmps.getD x undef := rfl
    unfold execOp
    simp only [resolve, invoke, builtin, Sem.run_bind, Sem.run_pure, Result.andThen_ok, List.map_toArray, List.map_cons, List.map_nil, hs1, hs2, hrun]
  · show bL [(d, _), (G, _)] σ.s k = _
    have hne : ¬ d = G := fun e => by rw [e] at hdG; simp at hdG
    simp only [bL, St.set, St.setB]
    cases hkd : Nat.beq k d <;> cases hkG : Nat.beq k G
    · rfl
    · rfl
    · rfl
    · exact absurd ((Nat.eq_of_beq_eq_true hkd).symm.trans (Nat.eq_of_beq_eq_true hkG)) hne
  · show bL [(D, _)] σ.b k = _
    simp only [bL, St.set, St.setB]
    cases hkd : Nat.beq k D <;> rfl
end
end
section
section
variable {P : Program} {n : Nat} {h0 : Nat → Prop} {w0 : World} {Fz0 : ay} {σ : St} {Q : Exit → St → Prop} {c : Code}
def IC {d t : Nat} {cs : List PV} (qs : List PV) (hd : σ.b d = some (t, cs)) (ht : ao cs qs) (hb : aj qs) (h : SW P n h0 w0 Fz0 c (σ.setB d (some (t, qs))) Q) : SW P n h0 w0 Fz0 c σ Q := fun a w hc => by
  obtain ⟨φ, Fz, Fp, hc⟩ := hc
  obtain ⟨cur, h1, h2⟩ := hc.box d _ hd
  obtain ⟨k1, k2, k3⟩ := hc.bxb d _ hd
  have c1 := hc.pullB hd
  have hn := c1.nod 0
  rw [if_pos rfl] at hn
  have c2 := c1.pushB (d := d) (g := φ d) (t := t) (cs := qs) (F := []) (X := mv Fp (2 * d + 2) 0) (by rw [St.setB_b, if_pos rfl]) h1 (hb.own (ht.rel h2.rel)) k2 (fun b hb => by rw [if_pos rfl]; simpa using hb) (by simpa using hn) (.inl rfl)
  exact h a w (bo.eqv ⟨_, _, _, c2⟩ (fun i => rfl) (fun e => by
    simp only [St.setB_b]
    split <;> rfl))
end
def VY {P : Program} {T : TypeId} (h : P.underlying T = some (.int .u8)) : si P T (fun n : Int => [PV.val (.int .u8 n)]) fun n => 0 ≤ n ∧ n ≤ 255 := by
  intro H enc w sp held n cs x hx
  obtain ⟨m, rfl, _, hw⟩ := DataW.trod_int h hx
  exact ⟨m, ⟨_, [], rfl, ⟨rfl, rfl⟩, rfl⟩, bounds_u8 hw⟩
end
end Go.Proofs.YtmekkgdboplbjaaGreat.M
