/- Rules for the lengths of slices inside structs. No condition. -/
import Derived.Test.YtloipjaiceifbaaCI
namespace Go.Proofs.Ytloipjaiceifbaa.M
open Go Go.RowKit
section
variable {P : Program} {n : Nat} {h0 : Nat → Prop} {w0 : World} {Fz0 : FzT} {σ : St} {Q : Exit → St → Prop} {c : Code}
theorem sl_le {o : Fl} {es : List (List PV)} {Fz : FzT} {w : World} {v : Value} (h : (PV.sl o es).rel Fz w v) : es.length ≤ 9223372036854775807 := by
  obtain ⟨⟨a, c, e, u, _, h1, h2, _⟩, _⟩ := h
  unfold maxLen at h2
  omega
/-- A slice inside a value has a length that is an int. -/
theorem sw_slen {s j : Nat} {ag : Bool} {cs : List PV} {o : Fl} {es : List (List PV)} (hs : σ.s s = some (RV.sv ag cs)) (hj : cs[j]? = some (PV.sl o es)) (h : es.length ≤ 9223372036854775807 → SW P n h0 w0 Fz0 c σ Q) : SW P n h0 w0 Fz0 c σ Q := fun a w hc => by
  have hc' := hc
  obtain ⟨φ, Fz, Fp, k⟩ := hc'
  obtain ⟨v, _, hr⟩ := (k.slot s _ hs).2.rel.at_ hj
  exact h (sl_le hr) a w hc
theorem sw_blen {d j t : Nat} {cs : List PV} {o : Fl} {es : List (List PV)} (hs : σ.b d = some (t, cs)) (hj : cs[j]? = some (PV.sl o es)) (h : es.length ≤ 9223372036854775807 → SW P n h0 w0 Fz0 c σ Q) : SW P n h0 w0 Fz0 c σ Q := fun a w hc => by
  have hc' := hc
  obtain ⟨φ, Fz, Fp, k⟩ := hc'
  obtain ⟨cur, _, ho⟩ := k.box d _ hs
  obtain ⟨v, _, hr⟩ := ho.rel.at_ hj
  exact h (sl_le hr) a w hc
end
end Go.Proofs.Ytloipjaiceifbaa.M
