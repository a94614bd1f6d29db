/- What functions of the program compute. No condition. -/
import Derived.Test.YtmekkgdboplbjaaGreatCR0
set_option linter.all false
namespace Go.Proofs.YtmekkgdboplbjaaGreat
open Go Go.RowKit M PV Tryz
set_option maxRecDepth 10000
attribute [local irreducible] PV.Lcl PV.LclR RV.Lcl
def Li : fO prog 124 = some [(0, 1), (1, 1)] := by kernel_rfl
def T7 {p1 p2 : Fl} {l : List Wt}  : aC prog 178 [(false, [sl .v (l.map (iz p1 p2))])] (az [(true, [sl oK ((kX l).Queries.map (iz ay aa)), sl (.own 243 1) ((kX l).Fields.map (At qt aa))])]) := by
 refine sF func178 fun h0 w0 Fz0 => ?_
 refine sj 0 fun hl0 => ?_
 refine sR ?_
 refine rX ?_ (x := (bR (by decide) wy wB))
 refine aP ?_
 refine sT [0, 2] [2] ?_
 refine rA ?_ (x := vM false [sl .v _])
 refine rA ?_ (x := cL [(false, [sl _ _])] [(false, [sl .v _])] A3 (hs := by exact Bj))
 refine rA ?_ (x := nT)
 refine sc (fun hba => ?_) (fun hba => ?_)
 have hok : di l = false := by simpa using hba
 refine sS [0, 2] [2] ?_
 refine rA ?_ (x := eV (qs := []) (cs := [sl _ _, sl _ _]) (by decide) wy wB Li (by exact rfl) (by exact tI) rfl (by exact rfl))
 refine IB ?_
 exact (bj 2 (bj _ (aI (by exact rfl) (aI (by refine ff ?_; rw [Q3 hok]; exact rfl) (aI rz (aI (fun h => nomatch h) tI))))))
 have hok : di l = true := by simpa using hba
 have hqw := QZ hok
 have hql := ot hok
 refine bl ?_
 refine sS [0, 2] [2] ?_
 refine rA ?_ (x := vM false [sl .v _])
 refine rA ?_ (x := cL [(false, [sl _ _])] [(false, [sl .v _])] RT (hs := by exact T6 (by omega)))
 refine rA ?_ (x := eV (qs := [(false, [sl _ _])]) (cs := [sl _ _, sl _ _]) (by decide) wy wB Li (by exact rfl) (by exact (aI (by exact tI) tI)) rfl (by exact rfl))
 refine HL ?_
 refine eO ?_
 refine sO [(0, _), (2, _), (3, _)] [(2, _), (3, (124, [sl _ _, sl _ _]))] ?_
 refine ba ?_
 refine cz ?_
 refine sP [0, 2, 3, 4] [2, 3] ?_
 refine sL [0, 2, 3] [2] (fun k : Nat => k ≤ 3) (fun k : Nat => [(4, RV.int (k : Int))]) (fun k : Nat => [(3, (124, (Au oK ay aa (.own 243 1) qt aa) ⟨l, ou l k⟩))]) (fun k : Nat => 3 - k) 0 (by omega) (by exact aI (by exact rfl) tI) (by exact aI (by exact rfl) tI) ?_
 rintro k hk
 refine qy ?_
 refine iv ?_
 refine sc (fun hbb => ?_) (fun hbb => ?_)
 have hlt : k < 3 := by omega
 have hfl := Q1 (l := l) (k := k)
 refine bB ?_
 refine sQ [0, 2, 3, 4] [2, 3] ?_
 refine db cJ ?_
 refine dA 0 ?_ (x := lF A6)
 refine dA 1 ?_ (x := cl (ms := [sl _ _]) (qs := [sl .v _]) (by decide) A8 (fun _ => rfl) (by exact nl rfl) (by exact rfl) (by exact (aF am.nil)) (by exact (ao.cons (bor_sl _) ao.nil)))
 refine eE ?_
 refine dA 12 ?_ (x := cL [(false, [sl _ _]), (false, [val _])] [(false, [sl .v _]), (false, [val _])] RU (hs := by exact T4))
 refine dA 28 ?_ (x := b9 (qs := [(false, [sl _ _])]) (by decide) A7 KX (by decide) rfl rfl rfl rfl rfl (by exact nl rfl) (by exact (aI (by exact tI) tI)) rfl)
 refine dA 63 ?_ (x := eC (by decide) A7 KX rfl rfl (by decide) rfl (by simp only [ar, aU, List.length_cons, List.length_nil]; omega) (by simp only [ar, aU, List.length_cons, List.length_nil]; omega))
 refine dA 127 ?_ (x := lF A6)
 refine dA 255 ?_ (x := bd (ag := false) (vs := [sl _ _]) A8 (by exact tI) (by exact rfl) (by exact nl rfl))
 refine sO [(0, _), (2, _), (3, _), (4, _)] [(2, _), (3, (124, [sl _ _, sl _ _]))] ?_
 refine eP ?_
 refine nx (k + 1) (by omega) (e := (by exact aI (by exact bg (by omega)) tI)) (f := (by exact aI (by simp only [Q0]; show _ = some (124, (Au oK ay aa (.own 243 1) qt aa) (iY.mk l (ou l k ++ [fS l (k : Int)]))); simp only [Au, bN]; exact rfl) tI))
 have hend : k = 3 := by omega
 refine bF ?_
 refine sT [0, 2, 3, 4] [2, 3] ?_
 refine rA ?_ (x := cl (ms := [sl _ _, sl _ _]) (qs := [sl .v _, sl .v _]) (by decide) rz (fun h => nomatch h) (by exact nl rfl) (by exact rfl) (by exact (aF (aF am.nil))) (by exact (ao.cons (bor_sl _) (ao.cons (bor_sl _) ao.nil))))
 refine IB ?_
 exact (bj 2 (bj _ (aI (by exact rfl) (aI (by refine ff ?_; subst hend; rw [Q2 hok]; exact rfl) (aI rz (aI (fun h => nomatch h) tI))))))
def T8 {p1 p2 : Fl} {l : List Wt}  (hb : l.length ≤ 1048576) : aC prog 248 [(false, [sl .v (l.map (iz p1 p2))])] (az [(false, [sl aa ((ov l).map ak)])]) := by
 refine sF func248 fun h0 w0 Fz0 => ?_
 refine sj 0 fun hl0 => ?_
 refine nJ ?_
 refine sS [0, 2] [] ?_
 refine mD ?_
 refine vX ?_
 refine sL [0, 2] [] (fun k : Nat => k ≤ l.length) (fun k : Nat => [(3, RV.slc aa ((ov (l.take k)).map ak)), (4, RV.int (k : Int))]) (fun k : Nat => []) (fun k : Nat => l.length - k) 0 (by omega) (by exact aI (by exact rfl) (aI (by exact rfl) tI)) (by exact tI) ?_
 rintro k hk
 refine cQ ?_
 refine vp ?_
 refine sc (fun hba => ?_) (fun hba => ?_)
 have hlt : k < l.length := by omega
 have htl : (ov (l.take k)).length = k := by unfold ov; rw [ar, bv]; omega
 refine bB ?_
 refine sG [0, 2, 3, 4] [] ?_
 refine rA ?_ (x := tM)
 refine uX ?_
 refine rA ?_ (x := bE (by decide) e8 (by exact nl rfl))
 refine vw ?_
 refine sG [0, 2, 3, 4] [] ?_
 refine cZ ?_
 refine nx (k + 1) (by omega) (e := (by exact aI (by exact cr (by unfold ov; rw [wc hlt, bN]; rfl)) (aI (by exact rfl) tI)))
 have hend : k = l.length := by omega
 exact DN
def T9 {o : List Int}  : aC prog 63 [(false, [sl .v (o.map ak)])] (az [(false, [val (.bool (go o))])]) := by
 refine sF func63 fun h0 w0 Fz0 => ?_
 refine sj 0 fun hl0 => ?_
 refine pq ?_
 refine vW ?_
 refine sc (fun hba => ?_) (fun hba => ?_)
 have hbad : go o = false := by unfold go; rw [decide_eq_false (by omega)]; rfl
 refine sS [0, 2] [] ?_
 exact j5
 have hl3 : o.length = 3 := by omega
 refine cO ?_
 refine sS [0, 2] [] ?_
 refine qV ?_
 refine sL [0] [] (fun k : Nat => k ≤ o.length ∧ rx o k = true) (fun k : Nat => [(3, RV.int (k : Int))]) (fun k : Nat => []) (fun k : Nat => o.length - k) 0 (by exact ⟨by omega, rfl⟩) (by exact aI (by exact rfl) tI) (by exact tI) ?_
 rintro k ⟨hk, ha⟩
 refine jl ?_
 refine sc (fun hbb => ?_) (fun hbb => ?_)
 have hlt : k < o.length := by omega
 have hgk := ic (d := (0 : Int)) hlt
 refine cF ?_
 refine sP [0, 3] [] ?_
 refine nN ?_
 refine qE ?_
 refine HC ?_
 refine dA 63 ?_ (x := sM)
 refine dx 19 (fun ga sga => ?_) (fun ga sga => ?_)
 refine dT 127 ga ?_
 refine dT 127 ga ?_
 refine dT 511 ga ?_
 refine dT 127 ga ?_
 refine dT 127 ga ?_
 refine dT 3199 ga ?_
 refine dT 7295 ga ?_
 refine dT 16383 ga ?_
 refine dA 32767 ?_ (x := aR ga)
 refine dc ?_
 exact Em
 refine dB 127 ga ?_ (x := vM false [sl .v _])
 refine dB 127 ga ?_ (x := sM)
 refine dB 511 ga ?_ (x := t3 (i := 0) (j := k) (ys := (o.take k)) (q := (0 : Int)) (by decide) bC (by exact rfl) (by exact tI) (by omega) (by omega) (by omega) (by omega) (fun _ => rfl) (by simp))
 refine dB 127 ga ?_ (x := vM false [sl .v _])
 refine dB 127 ga ?_ (x := sM)
 refine dB 3199 ga ?_ (x := aY (by decide) bC (by exact tI) (by exact rfl) (by exact be (by omega) rfl) (by exact rfl))
 refine dB 7295 ga ?_ (x := lE [val _] au)
 refine dB 16383 ga ?_ (x := cL [(false, [sl _ _]), (false, [val _])] [(false, [sl .v _]), (false, [val _])] wh (hs := by exact wC))
 refine dA 32767 ?_ (x := aK ga)
 refine sc (fun hbc => ?_) (fun hbc => ?_)
 exact Em
 have hyes : (aV (o.getD k 0) 0 2 && !b8 (o.take k) (o.getD k 0)) = true := by rw [← hgk]; simp_all
 refine qW ?_
 refine cZ ?_
 refine nx (k + 1) (by exact ⟨by omega, by rw [QW, ha, hyes]; rfl⟩)
 have hend : k = 3 := by omega
 rw [hend, Ke hl3] at ha
 refine qX ?_
 refine cm ?_
 exact rb (ha.symm)
def Ua {p1 p2 p4 p5 : Fl} {x : iY} {r : Row} {o : List Int}  (hxo : tx x = true) (hro : dt r = true) (hoo : go o = true) : aC prog 180 [(true, [sl .v (x.Queries.map (iz p1 p2)), sl .v (x.Fields.map (At p4 p5))]), (true, [val (vI r.Id), sl .v (r.Values.map ak)]), (false, [sl .v (o.map ak)])] (az [(false, [sl aa ((pU x r o).1.map ak)]), (false, [val (vI (pU x r o).2)])]) := by
 refine sF func180 fun h0 w0 Fz0 => ?_
 refine sn 0 0 fun hl0_0 => ?_
 refine sn 0 1 fun hl0_1 => ?_
 refine sn 1 1 fun hl1_1 => ?_
 refine sj 2 fun hl2 => ?_
 have hx := QU hxo
 have hq := ot hx.1
 have ho := Kd hoo
 have hrl := rp hro
 refine sR ?_
 refine rX ?_ (x := (cI (ag := true) (cs := [sl _ _, sl _ _]) (by decide) (by exact tI)))
 refine rX ?_ (x := (cI (ag := true) (cs := [val _, sl _ _]) (by decide) (by exact tI)))
 refine rA ?_ (x := ik (.inr rfl) (by decide) (jf (t := 3) (e := 1)))
 refine rK ?_
 refine sT [2, 3, 4, 6, 7] [3, 4] ?_
 refine rA ?_ (x := lF Ss)
 refine rA ?_ (x := lD [sl .v _] Sv)
 refine rA ?_ (x := cL [(false, [sl _ _])] [(false, [sl .v _])] RW (hs := by exact T8 (by omega)))
 refine rA ?_ (x := tA)
 refine sS [2, 3, 4, 6, 7, 8] [3, 4] ?_
 refine dz ?_
 refine sS [2, 3, 4, 6, 7, 8, 9] [3, 4] ?_
 refine cz ?_
 refine sP [2, 3, 4, 6, 7, 8, 9, 10] [3, 4] ?_
 refine sL [2, 3, 4, 6, 7] [3, 4] (fun k : Nat => k ≤ o.length) (fun k : Nat => [(8, RV.slc aa ((eL x r o k).1.map ak)), (9, RV.int (eL x r o k).2), (10, RV.int (k : Int))]) (fun k : Nat => []) (fun k : Nat => o.length - k) 0 (by omega) (by exact aI (by exact rfl) (aI (by exact rfl) (aI (by exact rfl) tI))) (by exact tI) ?_
 rintro k hk
 refine jl ?_
 refine rM ?_
 refine cx 19 (fun ga sga => ?_) (fun ga sga => ?_)
 refine rB ga ?_ (x := vM false [sl .v _])
 refine rB ga ?_ (x := lN bC)
 refine rB ga ?_ (x := eg)
 refine rA ?_ (x := aR ga)
 refine sc (fun hba => ?_) (fun hba => ?_)
 have hlt : k < o.length := (by first | omega | (simp_all; done) | (simp_all; omega))
 have hne : (eL x r o k).1 ≠ [] := by intro e; simp_all
 have hof := ho.2 o[k] (List.getElem_mem hlt)
 have hff : o[k].toNat < x.Fields.length := by omega
 have hrf : o[k].toNat < r.Values.length := by omega
 have hpl := Kh hq.1 r o k
 have hxf := hx.2.2 o[k].toNat (by omega)
 have hsi := QP x.Queries (o[k].toNat : Int)
 rw [← hxf] at hsi
 have hss : ∀ s ∈ x.Fields.getD o[k].toNat [], s.Set.length ≤ 1048576 := fun s hs => Nat.le_trans (hsi.2 s hs) (by decide)
 have hfl := QT hsi.2 (gW r.Values o[k])
 have hpe := Kf (x := x) (r := r) hlt hne
 refine cF ?_
 refine sQ [2, 3, 4, 6, 7, 8, 9, 10] [3, 4] ?_
 refine db cJ ?_
 refine dA 0 ?_ (x := lF A6)
 refine dA 1 ?_ (x := lD [sl .v _] A8)
 refine eE ?_
 refine dA 12 ?_ (x := aY (by decide) bC (by exact tI) (by exact rfl) (by exact be (by omega) rfl) (by exact rfl))
 refine dA 28 ?_ (x := lE [val _] au)
 refine dA 63 ?_ (x := aY (k := o[k].toNat) (by decide) A7 (by exact tI) (by omega) (by exact be hff (by rw [ic (d := ([] : List dW)) hff])) (by exact rfl))
 refine dA 127 ?_ (x := lE [sl .v _] Sw)
 refine dA 0 ?_ (x := lF gY)
 refine dA 256 ?_ (x := lD [sl .v _] bq)
 refine eE ?_
 refine dA 3072 ?_ (x := aY (by decide) bC (by exact tI) (by exact rfl) (by exact be (by omega) rfl) (by exact rfl))
 refine dA 7168 ?_ (x := lE [val _] au)
 refine dA 16128 ?_ (x := aY (k := o[k].toNat) (by decide) bC (by exact tI) (by omega) (by exact be hrf (by rw [ic (d := (0 : Int)) hrf])) (by exact rfl))
 refine dA 32512 ?_ (x := lE [val _] au)
 refine dA 65535 ?_ (x := cL [(false, [sl _ _]), (false, [val _])] [(false, [sl .v _]), (false, [val _])] RX (hs := by exact (T5 (l := x.Fields.getD o[k].toNat []) (v := gW r.Values o[k]) hss)))
 refine dA 131071 ?_ (x := tA)
 refine sS [2, 3, 4, 6, 7, 8, 9, 10, 11] [3, 4] ?_
 refine rM ?_
 refine rA ?_ (x := j4)
 refine iV ?_
 refine iV ?_
 refine rA ?_ (x := MS (by decide) (by exact tI) (by exact tI))
 refine rA ?_ (x := j4)
 refine rS ?_
 refine sG [2, 3, 4, 6, 7, 8, 9, 10, 11] [3, 4] ?_
 refine rA ?_ (x := vM false [sl .v _])
 refine rA ?_ (x := vM false [sl .v _])
 refine rA ?_ (x := cL [(false, [sl _ _]), (false, [sl _ _])] [(false, [sl .v _]), (false, [sl .v _])] RY (hs := by exact TW))
 refine rA ?_ (x := tA)
 refine sG [2, 3, 4, 6, 7, 8, 9, 10, 11] [3, 4] ?_
 refine cZ ?_
 refine nx (k + 1) (by omega) (e := (by exact aI (by exact cr (by rw [hpe])) (aI (by exact bg (by rw [hpe])) (aI (by exact rfl) tI))))
 exact En
 refine py ?_
 exact En
end Go.Proofs.YtmekkgdboplbjaaGreat
