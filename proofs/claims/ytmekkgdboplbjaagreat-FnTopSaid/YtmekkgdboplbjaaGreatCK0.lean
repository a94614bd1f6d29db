/- What functions of the program compute. No condition. -/
import Derived.Test.YtmekkgdboplbjaaGreatCH0
import Derived.Test.YtmekkgdboplbjaaGreatCJ0
set_option linter.all false
namespace Go.Proofs.YtmekkgdboplbjaaGreat
open Go Go.RowKit M PV Tryz
set_option maxRecDepth 10000
attribute [local irreducible] PV.Lcl PV.LclR RV.Lcl
def acs {x : List Int} {y : List Int}  : aN prog 197 [(false, [sl .v (x.map am)]), (false, [sl .v (y.map am)])] (aJ [(false, [val (.bool (decide (eM x y < 0)))])]) := by
 refine sF func197 fun h0 w0 Fz0 => ?_
 refine sj 0 fun hl0 => ?_
 refine sj 1 fun hl1 => ?_
 refine ow ?_
 refine zj ?_
 refine sL [0, 1] [] (fun k : Nat => k ≤ x.length ∧ (k ≤ y.length ∧ eM x y = eM (x.drop k) (y.drop k))) (fun k : Nat => [(5, RV.int (k : Int))]) (fun k : Nat => []) (fun k : Nat => x.length - k) 0 (by exact ⟨by omega, ⟨Nat.zero_le _, rfl⟩⟩) (by exact aI (by exact rfl) tI) (by exact tI) ?_
 rintro k ⟨hk, ha⟩
 refine jR ?_
 refine rM ?_
 refine cx 10 (fun ga sga => ?_) (fun ga sga => ?_)
 refine rB ga ?_ (x := sM)
 refine rB ga ?_ (x := vM false [sl .v _])
 refine rB ga ?_ (x := lN bC)
 refine rB ga ?_ (x := dq)
 refine rA ?_ (x := aO ga)
 refine sc ?_ ?_ <;> intro hba
 have hlt : k < x.length := by omega
 have hy2 : k + 1 ≤ y.length := by omega
 refine th ?_
 refine ox ?_
 refine eY ?_
 refine yv ?_
 refine dA 255 ?_ (x := dr)
 refine sc ?_ ?_ <;> intro hbb
 have hne : ¬ rQ x[k] y[k] = 0 := fun h_ => hbb (abT h_)
 have hrr := ha.2.trans (abS hlt (by omega) hne)
 refine be ?_
 refine sP [0, 1, 5] [] ?_
 refine ox ?_
 refine eY ?_
 refine yv ?_
 refine dA 255 ?_ (x := dq)
 refine dA 511 ?_ (x := sA)
 refine cT ?_
 exact rb (by rw [hrr]; unfold rQ fw; rw [decide_eq_decide]; repeat' split; all_goals omega)
 have hst : eM (x.drop k) (y.drop k) = eM (x.drop (k + 1)) (y.drop (k + 1)) := abR hlt (by omega) (by simpa using hbb)
 refine tD ?_
 refine nx (k + 1) (by exact ⟨by omega, ⟨hy2, ha.2.trans hst⟩⟩)
 exact IS
 refine mD ?_
 exact IS
def act {x : Row} {y : Row}  : aN prog 96 [(true, [val (vI x.Id), sl .v (x.Values.map am)]), (true, [val (vI y.Id), sl .v (y.Values.map am)])] (aJ [(false, [val (.bool (dH dg x y))])]) := by
 refine sF func96 fun h0 w0 Fz0 => ?_
 refine sn 0 1 fun hl0_1 => ?_
 refine sn 1 1 fun hl1_1 => ?_
 refine Dl ?_
 refine qG ?_
 refine pt ?_
 refine pt ?_
 refine rA ?_ (x := dr)
 refine sc ?_ ?_ <;> intro hba
 refine sS [2, 3, 4] [2, 3] ?_
 refine pt ?_
 refine pt ?_
 refine rA ?_ (x := dq)
 exact IT
 refine bb ?_
 refine sS [2, 3, 4] [2, 3] ?_
 refine DM ?_
 refine DM ?_
 refine rA ?_ (x := cL [(false, [sl _ _]), (false, [sl _ _])] [(false, [sl .v _]), (false, [sl .v _])] Yv (hs := by exact acs))
 exact IT
def TI {p1 : Fl} {x : List Row}  (hb : dj x ≤ 68719476736) : aN prog 28 [(false, [sl .v (x.map (bI p1))])] (aJ [(false, [sl aE ((dO (dH dg) x).map (bI .v))])]) := by
 refine sF func28 fun h0 w0 Fz0 => ?_
 refine sj 0 fun hl0 => ?_
 have hbl : x.length ≤ dj x := Nat.le_add_right _ _
 have hbu := hb
 simp only [dj] at hbu
 refine vt ?_
 refine sS [0, 2] [] ?_
 refine tw ?_
 refine tg ?_
 refine sL [0, 2] [] (fun i : Nat => i ≤ x.length) (fun i : Nat => [(3, RV.slc aE (((dO (dH dg) (x.take i))).map (bI .v))), (4, RV.int (i : Int))]) (fun i : Nat => []) (fun i : Nat => x.length - i) 0 (by omega) (by exact aI (by exact rfl) (aI (by exact rfl) tI)) (by exact tI) ?_
 rintro i hk
 have hll : (dO (dH dg) (x.take i)).length = i := by rw [abM, bv]; omega
 refine qV ?_
 refine sc ?_ ?_ <;> intro hba
 have hlt : i < x.length := by omega
 have hwm := di (f := fJ) hlt
 refine bi ?_
 refine sS [0, 2, 3, 4] [] ?_
 refine oi ?_
 refine hZ ?_
 refine mp ?_
 refine sP [0, 2, 3, 4, 5] [] ?_
 refine sL [0, 2, 3, 4] [] (fun j : Nat => j ≤ i ∧ ∀ t : Nat, j ≤ t → (h : t < (dO (dH dg) (x.take i)).length) → (dH dg) x[i] (dO (dH dg) (x.take i))[t] = true) (fun j : Nat => [(5, RV.int (j : Int))]) (fun j : Nat => []) (fun j : Nat => j) i (by exact ⟨Nat.le_refl _, fun t h1 h2 => by omega⟩) (by exact aI (by exact bk (by first | rfl | (rw [aw]; omega) | omega)) tI) (by exact tI) ?_
 rintro j ⟨hj, haj⟩
 refine dJ ?_
 refine qE ?_
 refine dA 1 ?_ (x := dI)
 refine dA 3 ?_ (x := sM)
 refine dx 18 (fun ga sga => ?_) (fun ga sga => ?_)
 refine dB 7 ga ?_ (x := vM false [sl .v _])
 refine dB 7 ga ?_ (x := sM)
 refine dB 31 ga ?_ (x := aU (by decide) fD (by exact tI) (by exact rfl) (by exact aW (by omega) rfl) (by exact rfl))
 refine dB 63 ga ?_ (x := lE [val _, sl .v _] fj)
 refine dB 7 ga ?_ (x := vM false [sl .v _])
 refine dB 7 ga ?_ (x := sM)
 refine dB 263 ga ?_ (x := fI)
 refine dB 903 ga ?_ (x := aU (k := j - 1) (by decide) fD (by exact tI) (by omega) (by exact aW (by omega) rfl) (by exact rfl))
 refine dB 1927 ga ?_ (x := lE [val _, sl .v _] fj)
 refine dB 4095 ga ?_ (x := cL [(true, [val _, sl _ _]), (true, [val _, sl _ _])] [(true, [val _, sl .v _]), (true, [val _, sl .v _])] ZD (hs := by exact act))
 refine dA 8191 ?_ (x := aO ga)
 refine sc ?_ ?_ <;> intro hbb
 have hj1 : 1 ≤ j := by omega
 have hlt2 : (dH dg) x[i] ((dO (dH dg) (x.take i))[j - 1]'(by omega)) = true := (show (dH dg) x[i] ((dO (dH dg) (x.take i))[j - 1]'(by omega)) = true by simpa using hbb)
 refine bb ?_
 refine mp ?_
 refine sG [0, 2, 3, 4, 5] [] ?_
 refine rM ?_
 refine rA ?_ (x := fI)
 refine rS ?_
 refine nx (j - 1) (by exact ⟨by omega, fun t h1 h2 => by by_cases e : t = j - 1; (· subst e; exact hlt2); (· exact haj t (by omega) h2)⟩) (e := (by exact aI (by exact bk (by omega)) tI))
 have htj : ((dO (dH dg) (x.take i)).take j).length = j := by rw [bv]; omega
 have hdj : ((dO (dH dg) (x.take i)).drop j).length = i - j := by rw [fH]; omega
 have hst : j = 0 ∨ ∀ h : j - 1 < (dO (dH dg) (x.take i)).length, (dH dg) x[i] (dO (dH dg) (x.take i))[j - 1] = false := by first | exact .inl (by omega) | (by_cases h0 : j = 0; exact .inl h0; right; intro _; exact (show (dH dg) x[i] (dO (dH dg) (x.take i))[j - 1] = false by simpa using hbb))
 exact IU
 refine dF 7 ga ?_
 refine dF 7 ga ?_
 refine dF 31 ga ?_
 refine dF 63 ga ?_
 refine dF 7 ga ?_
 refine dF 7 ga ?_
 refine dF 263 ga ?_
 refine dF 903 ga ?_
 refine dF 1927 ga ?_
 refine dF 4095 ga ?_
 refine dA 8191 ?_ (x := aF ga)
 refine eX ?_
 have htj : ((dO (dH dg) (x.take i)).take j).length = j := by rw [bv]; omega
 have hdj : ((dO (dH dg) (x.take i)).drop j).length = i - j := by rw [fH]; omega
 have hst : j = 0 ∨ ∀ h : j - 1 < (dO (dH dg) (x.take i)).length, (dH dg) x[i] (dO (dH dg) (x.take i))[j - 1] = false := by first | exact .inl (by omega) | (by_cases h0 : j = 0; exact .inl h0; right; intro _; exact (show (dH dg) x[i] (dO (dH dg) (x.take i))[j - 1] = false by simpa using hb_))
 exact IU
 have hend : i = x.length := by omega
 exact BO
end Go.Proofs.YtmekkgdboplbjaaGreat
