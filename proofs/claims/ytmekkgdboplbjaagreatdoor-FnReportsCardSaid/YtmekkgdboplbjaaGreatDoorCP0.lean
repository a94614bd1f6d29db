/- What functions of the program compute. No condition. -/
import Derived.Test.YtmekkgdboplbjaaGreatDoorCO0
set_option linter.all false
namespace Go.Proofs.YtmekkgdboplbjaaGreatDoor
open Go Go.RowKit M PV Tryz
set_option maxRecDepth 10000
attribute [local irreducible] PV.Lcl PV.LclR RV.Lcl
def LG : dL prog 260 = some [(0, 1), (1, 1)] := by kernel_rfl
def Uz {p1 p2 : Fl} {l : List ZG}  : aN prog 308 [(false, [sl .v (l.map (kz p1 p2))])] (aF [(true, [sl pz ((lV l).Queries.map (kz aP ae)), sl (.own 298 1) ((lV l).Fields.map (AD qJ ae))])]) := by
 refine sF func308 fun h0 w0 Fz0 => ?_
 refine sj 0 fun hl0 => ?_
 refine sR ?_
 refine rX ?_ (x := (db (by decide) xk xn))
 refine ba ?_
 refine sT [0, 2] [2] ?_
 refine rA ?_ (x := vM false [sl .v _])
 refine rA ?_ (x := cL [(false, [sl _ _])] [(false, [sl .v _])] Bu (hs := by exact BI))
 refine rA ?_ (x := nT)
 refine sc (fun hba => ?_) (fun hba => ?_)
 have hok : dm l = false := by simpa using hba
 refine sS [0, 2] [2] ?_
 refine rA ?_ (x := dM (qs := []) (cs := [sl _ _, sl _ _]) (by decide) xk xn LG (by exact rfl) (by exact tI) rfl (by exact rfl))
 refine Js ?_
 exact (bj 2 (bj _ (aI (by exact rfl) (aI (by refine dW ?_; rw [QV hok]; exact rfl) (aI rV (aI (fun h => nomatch h) tI))))))
 have hok : dm l = true := by simpa using hba
 have hqw := QQ hok
 have hql := oW hok
 refine bc ?_
 refine sS [0, 2] [2] ?_
 refine rA ?_ (x := vM false [sl .v _])
 refine rA ?_ (x := cL [(false, [sl _ _])] [(false, [sl .v _])] Tl (hs := by exact Uy (by omega)))
 refine rA ?_ (x := dM (qs := [(false, [sl _ _])]) (cs := [sl _ _, sl _ _]) (by decide) xk xn LG (by exact rfl) (by exact (aI (by exact tI) tI)) rfl (by exact rfl))
 refine II ?_
 refine dO ?_
 refine sO [(0, _), (2, _), (3, _)] [(2, _), (3, (260, [sl _ _, sl _ _]))] ?_
 refine rq ?_
 refine sP [0, 2, 3, 4] [2, 3] ?_
 refine sL [0, 2, 3] [2] (fun k : Nat => k ≤ 3) (fun k : Nat => [(4, RV.int (k : Int))]) (fun k : Nat => [(3, (260, (AE pz aP ae (.own 298 1) qJ ae) ⟨l, oX l k⟩))]) (fun k : Nat => 3 - k) 0 (by omega) (by exact aI (by exact rfl) tI) (by exact aI (by exact rfl) tI) ?_
 rintro k hk
 refine rh ?_
 refine sc (fun hbb => ?_) (fun hbb => ?_)
 have hlt : k < 3 := by omega
 have hfl := QT (l := l) (k := k)
 refine bw ?_
 refine sQ [0, 2, 3, 4] [2, 3] ?_
 refine cv cd ?_
 refine dA 0 ?_ (x := lF Bz)
 refine dA 1 ?_ (x := dH (ms := [sl _ _]) (qs := [sl .v _]) (by decide) BB (fun _ => rfl) (by exact nl rfl) (by exact rfl) (by exact (aA ao.nil)) (by exact (ab.cons (bor_sl _) ab.nil)))
 refine gy ?_
 refine dA 12 ?_ (x := cL [(false, [sl _ _]), (false, [val _])] [(false, [sl .v _]), (false, [val _])] Tm (hs := by exact Uw))
 refine dA 28 ?_ (x := bm (qs := [(false, [sl _ _])]) (by decide) BA Lr (by decide) rfl rfl rfl rfl rfl (by exact nl rfl) (by exact (aI (by exact tI) tI)) rfl)
 refine dA 63 ?_ (x := dy (by decide) BA Lr rfl rfl (by decide) rfl (by simp only [am, aD, List.length_cons, List.length_nil]; omega) (by simp only [am, aD, List.length_cons, List.length_nil]; omega))
 refine dA 127 ?_ (x := lF Bz)
 refine dA 255 ?_ (x := bf (ag := false) (vs := [sl _ _]) BB (by exact tI) (by exact rfl) (by exact nl rfl))
 refine sO [(0, _), (2, _), (3, _), (4, _)] [(2, _), (3, (260, [sl _ _, sl _ _]))] ?_
 refine rp ?_
 refine nx (k + 1) (by omega) (e := (by exact aI (by exact bA (by omega)) tI)) (f := (by exact aI (by simp only [QR]; show _ = some (260, (AE pz aP ae (.own 298 1) qJ ae) (ja.mk l (oX l k ++ [fR l (k : Int)]))); simp only [AE, bb]; exact rfl) tI))
 have hend : k = 3 := by omega
 refine bE ?_
 refine sT [0, 2, 3, 4] [2, 3] ?_
 refine rA ?_ (x := dH (ms := [sl _ _, sl _ _]) (qs := [sl .v _, sl .v _]) (by decide) rV (fun h => nomatch h) (by exact nl rfl) (by exact rfl) (by exact (aA (aA ao.nil))) (by exact (ab.cons (bor_sl _) (ab.cons (bor_sl _) ab.nil))))
 refine Js ?_
 exact (bj 2 (bj _ (aI (by exact rfl) (aI (by refine dW ?_; subst hend; rw [QU hok]; exact rfl) (aI rV (aI (fun h => nomatch h) tI))))))
def UA {p1 p2 : Fl} {l : List ZG}  (hb : l.length ≤ 1048576) : aN prog 328 [(false, [sl .v (l.map (kz p1 p2))])] (aF [(false, [sl ae ((oY l).map an)])]) := by
 refine sF func328 fun h0 w0 Fz0 => ?_
 refine sj 0 fun hl0 => ?_
 refine pO ?_
 refine sS [0, 2] [] ?_
 refine nE ?_
 refine oI ?_
 refine sL [0, 2] [] (fun k : Nat => k ≤ l.length) (fun k : Nat => [(3, RV.slc ae ((oY (l.take k)).map an)), (4, RV.int (k : Int))]) (fun k : Nat => []) (fun k : Nat => l.length - k) 0 (by omega) (by exact aI (by exact rfl) (aI (by exact rfl) tI)) (by exact tI) ?_
 rintro k hk
 refine iv ?_
 refine wk ?_
 refine sc (fun hba => ?_) (fun hba => ?_)
 have hlt : k < l.length := by omega
 have htl : (oY (l.take k)).length = k := by unfold oY; rw [am, bg]; omega
 refine tz ?_
 refine rA ?_ (x := tM)
 refine vV ?_
 refine vX ?_
 refine nB ?_
 refine tB ?_
 refine nx (k + 1) (by omega) (e := (by exact aI (by exact bI (by unfold oY; rw [kC hlt, bb]; rfl)) (aI (by exact rfl) tI)))
 have hend : k = l.length := by omega
 exact EE
def UB {o : List Int}  : aN prog 158 [(false, [sl .v (o.map an)])] (aF [(false, [val (.bool (fF o))])]) := by
 refine sF func158 fun h0 w0 Fz0 => ?_
 refine sj 0 fun hl0 => ?_
 refine lM ?_
 refine sS [0, 2] [] ?_
 refine jH ?_
 refine rA ?_ (x := gJ)
 refine sc (fun hba => ?_) (fun hba => ?_)
 have hbad : fF o = false := by unfold fF; rw [decide_eq_false (by omega)]; rfl
 refine sS [0, 2] [] ?_
 exact lK
 have hl3 : o.length = 3 := by omega
 refine eA ?_
 refine sS [0, 2] [] ?_
 refine de ?_
 refine sP [0, 2, 3] [] ?_
 refine sL [0] [] (fun k : Nat => k ≤ o.length ∧ rL o k = true) (fun k : Nat => [(3, RV.int (k : Int))]) (fun k : Nat => []) (fun k : Nat => o.length - k) 0 (by exact ⟨by omega, rfl⟩) (by exact aI (by exact rfl) tI) (by exact tI) ?_
 rintro k ⟨hk, ha⟩
 refine kw ?_
 refine sc (fun hbb => ?_) (fun hbb => ?_)
 have hlt : k < o.length := by omega
 have hgk := cU (d := (0 : Int)) hlt
 refine er ?_
 refine sP [0, 3] [] ?_
 refine nC ?_
 refine vR ?_
 refine IE ?_
 refine dA 63 ?_ (x := sM)
 refine dx 19 (fun ga sga => ?_) (fun ga sga => ?_)
 refine dT 127 ga ?_
 refine dT 127 ga ?_
 refine dT 511 ga ?_
 refine dT 127 ga ?_
 refine dT 127 ga ?_
 refine dT 3199 ga ?_
 refine dT 7295 ga ?_
 refine dT 16383 ga ?_
 refine dA 32767 ?_ (x := aK ga)
 refine cO ?_
 exact Fk
 refine dB 127 ga ?_ (x := vM false [sl .v _])
 refine dB 127 ga ?_ (x := sM)
 refine dB 511 ga ?_ (x := uR (i := 0) (j := k) (ys := (o.take k)) (q := (0 : Int)) (by decide) aW (by exact rfl) (by exact tI) (by omega) (by omega) (by omega) (by omega) (fun _ => rfl) (by simp))
 refine dB 127 ga ?_ (x := vM false [sl .v _])
 refine dB 127 ga ?_ (x := sM)
 refine dB 3199 ga ?_ (x := aU (by decide) aW (by exact tI) (by exact rfl) (by exact aV (by omega) rfl) (by exact rfl))
 refine dB 7295 ga ?_ (x := lE [val _] aw)
 refine dB 16383 ga ?_ (x := cL [(false, [sl _ _]), (false, [val _])] [(false, [sl .v _]), (false, [val _])] wL (hs := by exact xq))
 refine dA 32767 ?_ (x := aH ga)
 refine sc (fun hbc => ?_) (fun hbc => ?_)
 exact Fk
 have hyes : (aB (o.getD k 0) 0 2 && !bP (o.take k) (o.getD k 0)) = true := by rw [← hgk]; simp_all
 refine pY ?_
 refine ca ?_
 refine nx (k + 1) (by exact ⟨by omega, by rw [QN, ha, hyes]; rfl⟩)
 have hend : k = 3 := by omega
 rw [hend, Kl hl3] at ha
 refine tu ?_
 refine cC ?_
 exact rb (ha.symm)
def UC {p1 p2 p4 p5 : Fl} {x : ja} {r : Row} {o : List Int}  (hxo : tZ x = true) (hro : bp r = true) (hoo : fF o = true) : aN prog 314 [(true, [sl .v (x.Queries.map (kz p1 p2)), sl .v (x.Fields.map (AD p4 p5))]), (true, [val (vI r.Id), sl .v (r.Values.map an)]), (false, [sl .v (o.map an)])] (aF [(false, [sl ae ((qn x r o).1.map an)]), (false, [val (vI (qn x r o).2)])]) := by
 refine sF func314 fun h0 w0 Fz0 => ?_
 refine sn 0 0 fun hl0_0 => ?_
 refine sn 0 1 fun hl0_1 => ?_
 refine sn 1 1 fun hl1_1 => ?_
 refine sj 2 fun hl2 => ?_
 have hx := QL hxo
 have hq := oW hx.1
 have ho := Kk hoo
 have hrl := tQ hro
 refine sR ?_
 refine rX ?_ (x := (fY (ag := true) (cs := [sl _ _, sl _ _]) (by decide) (by exact tI)))
 refine zK ?_
 refine rK ?_
 refine sT [2, 3, 4, 6, 7] [3, 4] ?_
 refine rA ?_ (x := lF TL)
 refine rA ?_ (x := lD [sl .v _] TN)
 refine rA ?_ (x := cL [(false, [sl _ _])] [(false, [sl .v _])] Tn (hs := by exact UA (by omega)))
 refine rA ?_ (x := tA)
 refine sS [2, 3, 4, 6, 7, 8] [3, 4] ?_
 refine eD ?_
 refine sS [2, 3, 4, 6, 7, 8, 9] [3, 4] ?_
 refine de ?_
 refine sP [2, 3, 4, 6, 7, 8, 9, 10] [3, 4] ?_
 refine sL [2, 3, 4, 6, 7] [3, 4] (fun k : Nat => k ≤ o.length) (fun k : Nat => [(8, RV.slc ae ((eP x r o k).1.map an)), (9, RV.int (eP x r o k).2), (10, RV.int (k : Int))]) (fun k : Nat => []) (fun k : Nat => o.length - k) 0 (by omega) (by exact aI (by exact rfl) (aI (by exact rfl) (aI (by exact rfl) tI))) (by exact tI) ?_
 rintro k hk
 refine kw ?_
 refine rM ?_
 refine cx 19 (fun ga sga => ?_) (fun ga sga => ?_)
 refine rB ga ?_ (x := vM false [sl .v _])
 refine rB ga ?_ (x := lN aW)
 refine rB ga ?_ (x := dC)
 refine rA ?_ (x := aK ga)
 refine sc (fun hba => ?_) (fun hba => ?_)
 have hlt : k < o.length := (by first | omega | (simp_all; done) | (simp_all; omega))
 have hne : (eP x r o k).1 ≠ [] := by intro e; simp_all
 have hof := ho.2 o[k] (List.getElem_mem hlt)
 have hff : o[k].toNat < x.Fields.length := by omega
 have hrf : o[k].toNat < r.Values.length := by omega
 have hpl := Ko hq.1 r o k
 have hxf := hx.2.2 o[k].toNat (by omega)
 have hsi := QH x.Queries (o[k].toNat : Int)
 rw [← hxf] at hsi
 have hss : ∀ s ∈ x.Fields.getD o[k].toNat [], s.Set.length ≤ 1048576 := fun s hs => Nat.le_trans (hsi.2 s hs) (by decide)
 have hfl := QK hsi.2 (iA r.Values o[k])
 have hpe := Km (x := x) (r := r) hlt hne
 refine er ?_
 refine sQ [2, 3, 4, 6, 7, 8, 9, 10] [3, 4] ?_
 refine cv cd ?_
 refine dA 0 ?_ (x := lF Bz)
 refine dA 1 ?_ (x := lD [sl .v _] BB)
 refine gy ?_
 refine dA 12 ?_ (x := aU (by decide) aW (by exact tI) (by exact rfl) (by exact aV (by omega) rfl) (by exact rfl))
 refine dA 28 ?_ (x := lE [val _] aw)
 refine dA 63 ?_ (x := aU (k := o[k].toNat) (by decide) BA (by exact tI) (by omega) (by exact aV hff (by rw [cU (d := ([] : List eb)) hff])) (by exact rfl))
 refine dA 127 ?_ (x := lE [sl .v _] TO)
 refine dA 0 ?_ (x := lF ia)
 refine dA 256 ?_ (x := lD [sl .v _] bz)
 refine gy ?_
 refine dA 3072 ?_ (x := aU (by decide) aW (by exact tI) (by exact rfl) (by exact aV (by omega) rfl) (by exact rfl))
 refine dA 7168 ?_ (x := lE [val _] aw)
 refine dA 16128 ?_ (x := aU (k := o[k].toNat) (by decide) aW (by exact tI) (by omega) (by exact aV hrf (by rw [cU (d := (0 : Int)) hrf])) (by exact rfl))
 refine dA 32512 ?_ (x := lE [val _] aw)
 refine dA 65535 ?_ (x := cL [(false, [sl _ _]), (false, [val _])] [(false, [sl .v _]), (false, [val _])] Tp (hs := by exact (Ux (l := x.Fields.getD o[k].toNat []) (v := iA r.Values o[k]) hss)))
 refine dA 131071 ?_ (x := tA)
 refine sS [2, 3, 4, 6, 7, 8, 9, 10, 11] [3, 4] ?_
 refine rM ?_
 refine rA ?_ (x := iX)
 refine jH ?_
 refine jH ?_
 refine rA ?_ (x := Dj (by decide) (by exact tI) (by exact tI))
 refine kr ?_
 refine sG [2, 3, 4, 6, 7, 8, 9, 10, 11] [3, 4] ?_
 refine rA ?_ (x := vM false [sl .v _])
 refine rA ?_ (x := vM false [sl .v _])
 refine rA ?_ (x := cL [(false, [sl _ _]), (false, [sl _ _])] [(false, [sl .v _]), (false, [sl .v _])] Tq (hs := by exact Uq))
 refine rA ?_ (x := tA)
 refine sG [2, 3, 4, 6, 7, 8, 9, 10, 11] [3, 4] ?_
 refine ca ?_
 refine nx (k + 1) (by omega) (e := (by exact aI (by exact bI (by rw [hpe])) (aI (by exact bA (by rw [hpe])) (aI (by exact rfl) tI))))
 exact Fm
 refine qd ?_
 exact Fm
end Go.Proofs.YtmekkgdboplbjaaGreatDoor
