/- What functions of the program compute. No condition. -/
import Derived.Test.YtmekkgdboplbjaaGreatCR0
set_option linter.all false
namespace Go.Proofs.YtmekkgdboplbjaaGreat
open Go Go.RowKit M PV Tryz
set_option maxRecDepth 10000
attribute [local irreducible] PV.Lcl PV.LclR RV.Lcl
def Pk : gE prog 124 = some [(0, 1), (1, 1)] := by kernel_rfl
def ZK {p1 p2 : Fl} {l : List acv}  : aB prog 178 [(false, [sl .v (l.map (jZ p1 p2))])] (aA [(true, [sl qc ((mr l).Queries.map (jZ aw aa)), sl (.own 243 1) ((mr l).Fields.map (Cu rG aa))])]) := by
 refine sF func178 fun h0 w0 Fz0 => ?_
 refine sj 0 fun hl0 => ?_
 refine sR ?_
 refine rX ?_ (x := (bY (by decide) yo yq))
 refine aP ?_
 refine sT [0, 2] [2] ?_
 refine rA ?_ (x := vM false [sl .v _])
 refine rA ?_ (x := cL [(false, [sl _ _])] [(false, [sl .v _])] CY (hs := by exact Dl))
 refine rA ?_ (x := nT)
 refine sc (fun hba => ?_) (fun hba => ?_)
 have hok : dz l = false := by simpa using hba
 refine sS [0, 2] [2] ?_
 refine rA ?_ (x := fB (qs := []) (cs := [sl _ _, sl _ _]) (by decide) yo yq Pk (by exact rfl) (by exact tI) rfl (by exact rfl))
 refine LW ?_
 exact (bu 2 (bu _ (aI (by exact rfl) (aI (by refine fE ?_; rw [Wb hok]; exact rfl) (aI th (aI (fun h => nomatch h) tI))))))
 have hok : dz l = true := by simpa using hba
 have hqw := VX hok
 have hql := pU hok
 refine bm ?_
 refine sS [0, 2] [2] ?_
 refine rA ?_ (x := vM false [sl .v _])
 refine rA ?_ (x := cL [(false, [sl _ _])] [(false, [sl .v _])] Xc (hs := by exact ZJ (by omega)))
 refine rA ?_ (x := fB (qs := [(false, [sl _ _])]) (cs := [sl _ _, sl _ _]) (by decide) yo yq Pk (by exact rfl) (by exact (aI (by exact tI) tI)) rfl (by exact rfl))
 refine KQ ?_
 refine fF ?_
 refine sO [(0, _), (2, _), (3, _)] [(2, _), (3, (124, [sl _ _, sl _ _]))] ?_
 refine bf ?_
 refine cH ?_
 refine sP [0, 2, 3, 4] [2, 3] ?_
 refine sL [0, 2, 3] [2] (fun k : Nat => k ≤ 3) (fun k : Nat => [(4, RV.int (k : Int))]) (fun k : Nat => [(3, (124, (Cv qc aw aa (.own 243 1) rG aa) ⟨l, pV l k⟩))]) (fun k : Nat => 3 - k) 0 (by omega) (by exact aI (by exact rfl) tI) (by exact aI (by exact rfl) tI) ?_
 rintro k hk
 refine rU ?_
 refine iU ?_
 refine sc (fun hbb => ?_) (fun hbb => ?_)
 have hlt : k < 3 := by omega
 have hfl := VZ (l := l) (k := k)
 refine bB ?_
 refine sQ [0, 2, 3, 4] [2, 3] ?_
 refine dw dl ?_
 refine dA 0 ?_ (x := lF Da)
 refine dA 1 ?_ (x := cz (ms := [sl _ _]) (qs := [sl .v _]) (by decide) Dc (fun _ => rfl) (by exact nl rfl) (by exact rfl) (by exact (aH am.nil)) (by exact (an.cons (bor_sl _) an.nil)))
 refine eY ?_
 refine dA 12 ?_ (x := cL [(false, [sl _ _]), (false, [val _])] [(false, [sl .v _]), (false, [val _])] Xd (hs := by exact ZH))
 refine dA 28 ?_ (x := cj (qs := [(false, [sl _ _])]) (by decide) Db OQ (by decide) rfl rfl rfl rfl rfl (by exact nl rfl) (by exact (aI (by exact tI) tI)) rfl)
 refine dA 63 ?_ (x := fe (by decide) Db OQ rfl rfl (by decide) rfl (by simp only [aq, aV, List.length_cons, List.length_nil]; omega) (by simp only [aq, aV, List.length_cons, List.length_nil]; omega))
 refine dA 127 ?_ (x := lF Da)
 refine dA 255 ?_ (x := bg (ag := false) (vs := [sl _ _]) Dc (by exact tI) (by exact rfl) (by exact nl rfl))
 refine sO [(0, _), (2, _), (3, _), (4, _)] [(2, _), (3, (124, [sl _ _, sl _ _]))] ?_
 refine fU ?_
 refine nx (k + 1) (by omega) (e := (by exact aI (by exact bh (by omega)) tI)) (f := (by exact aI (by simp only [VY]; show _ = some (124, (Cv qc aw aa (.own 243 1) rG aa) (jB.mk l (pV l k ++ [gH l (k : Int)]))); simp only [Cv, bT]; exact rfl) tI))
 have hend : k = 3 := by omega
 refine bG ?_
 refine sT [0, 2, 3, 4] [2, 3] ?_
 refine rA ?_ (x := cz (ms := [sl _ _, sl _ _]) (qs := [sl .v _, sl .v _]) (by decide) th (fun h => nomatch h) (by exact nl rfl) (by exact rfl) (by exact (aH (aH am.nil))) (by exact (an.cons (bor_sl _) (an.cons (bor_sl _) an.nil))))
 refine LW ?_
 exact (bu 2 (bu _ (aI (by exact rfl) (aI (by refine fE ?_; subst hend; rw [Wa hok]; exact rfl) (aI th (aI (fun h => nomatch h) tI))))))
def ZL {p1 p2 : Fl} {l : List acv}  (hb : l.length ≤ 1048576) : aB prog 248 [(false, [sl .v (l.map (jZ p1 p2))])] (aA [(false, [sl aa ((pW l).map ak)])]) := by
 refine sF func248 fun h0 w0 Fz0 => ?_
 refine sj 0 fun hl0 => ?_
 refine pu ?_
 refine sS [0, 2] [] ?_
 refine ow ?_
 refine xP ?_
 refine sL [0, 2] [] (fun k : Nat => k ≤ l.length) (fun k : Nat => [(3, RV.slc aa ((pW (l.take k)).map ak)), (4, RV.int (k : Int))]) (fun k : Nat => []) (fun k : Nat => l.length - k) 0 (by omega) (by exact aI (by exact rfl) (aI (by exact rfl) tI)) (by exact tI) ?_
 rintro k hk
 refine cP ?_
 refine xo ?_
 refine sc (fun hba => ?_) (fun hba => ?_)
 have hlt : k < l.length := by omega
 have htl : (pW (l.take k)).length = k := by unfold pW; rw [aq, br]; omega
 refine bB ?_
 refine sG [0, 2, 3, 4] [] ?_
 refine rA ?_ (x := tM)
 refine wQ ?_
 refine rA ?_ (x := bI (by decide) fx (by exact nl rfl))
 refine xu ?_
 refine sG [0, 2, 3, 4] [] ?_
 refine cW ?_
 refine nx (k + 1) (by omega) (e := (by exact aI (by exact cG (by unfold pW; rw [xT hlt, bT]; rfl)) (aI (by exact rfl) tI)))
 have hend : k = l.length := by omega
 exact Gw
def ZM {o : List Int}  : aB prog 63 [(false, [sl .v (o.map ak)])] (aA [(false, [val (.bool (gV o))])]) := by
 refine sF func63 fun h0 w0 Fz0 => ?_
 refine sj 0 fun hl0 => ?_
 refine qR ?_
 refine xO ?_
 refine sc (fun hba => ?_) (fun hba => ?_)
 have hbad : gV o = false := by unfold gV; rw [decide_eq_false (by omega)]; rfl
 refine sS [0, 2] [] ?_
 exact kW
 have hl3 : o.length = 3 := by omega
 refine dt ?_
 refine sS [0, 2] [] ?_
 refine sz ?_
 refine sL [0] [] (fun k : Nat => k ≤ o.length ∧ tf o k = true) (fun k : Nat => [(3, RV.int (k : Int))]) (fun k : Nat => []) (fun k : Nat => o.length - k) 0 (by exact ⟨by omega, rfl⟩) (by exact aI (by exact rfl) tI) (by exact tI) ?_
 rintro k ⟨hk, ha⟩
 refine jX ?_
 refine sc (fun hbb => ?_) (fun hbb => ?_)
 have hlt : k < o.length := by omega
 have hgk := iH (d := (0 : Int)) hlt
 refine cO ?_
 refine sP [0, 3] [] ?_
 refine pA ?_
 refine sb ?_
 refine KH ?_
 refine dA 63 ?_ (x := sM)
 refine dx 19 (fun ga sga => ?_) (fun ga sga => ?_)
 refine dT 127 ga ?_
 refine dT 127 ga ?_
 refine dT 511 ga ?_
 refine dT 127 ga ?_
 refine dT 127 ga ?_
 refine dT 3199 ga ?_
 refine dT 7295 ga ?_
 refine dT 16383 ga ?_
 refine dA 32767 ?_ (x := aT ga)
 refine dr ?_
 exact Hh
 refine dB 127 ga ?_ (x := vM false [sl .v _])
 refine dB 127 ga ?_ (x := sM)
 refine dB 511 ga ?_ (x := tB (i := 0) (j := k) (ys := (o.take k)) (q := (0 : Int)) (by decide) bF (by exact rfl) (by exact tI) (by omega) (by omega) (by omega) (by omega) (fun _ => rfl) (by simp))
 refine dB 127 ga ?_ (x := vM false [sl .v _])
 refine dB 127 ga ?_ (x := sM)
 refine dB 3199 ga ?_ (x := aY (by decide) bF (by exact tI) (by exact rfl) (by exact bc (by omega) rfl) (by exact rfl))
 refine dB 7295 ga ?_ (x := lE [val _] au)
 refine dB 16383 ga ?_ (x := cL [(false, [sl _ _]), (false, [val _])] [(false, [sl .v _]), (false, [val _])] xY (hs := by exact yr))
 refine dA 32767 ?_ (x := aK ga)
 refine sc (fun hbc => ?_) (fun hbc => ?_)
 exact Hh
 have hyes : (aW (o.getD k 0) 0 2 && !ci (o.take k) (o.getD k 0)) = true := by rw [← hgk]; simp_all
 refine sB ?_
 refine cW ?_
 refine nx (k + 1) (by exact ⟨by omega, by rw [VU, ha, hyes]; rfl⟩)
 have hend : k = 3 := by omega
 rw [hend, NU hl3] at ha
 refine sC ?_
 refine cB ?_
 exact rb (ha.symm)
def ZN {p1 p2 p4 p5 : Fl} {x : jB} {r : Row} {o : List Int}  (hxo : vb x = true) (hro : dR r = true) (hoo : gV o = true) : aB prog 180 [(true, [sl .v (x.Queries.map (jZ p1 p2)), sl .v (x.Fields.map (Cu p4 p5))]), (true, [val (vI r.Id), sl .v (r.Values.map ak)]), (false, [sl .v (o.map ak)])] (aA [(false, [sl aa ((ro x r o).1.map ak)]), (false, [val (vI (ro x r o).2)])]) := by
 refine sF func180 fun h0 w0 Fz0 => ?_
 refine sn 0 0 fun hl0_0 => ?_
 refine sn 0 1 fun hl0_1 => ?_
 refine sn 1 1 fun hl1_1 => ?_
 refine sj 2 fun hl2 => ?_
 have hx := VS hxo
 have hq := pU hx.1
 have ho := NT hoo
 have hrl := sZ hro
 refine sR ?_
 refine rX ?_ (x := (dG (ag := true) (cs := [sl _ _, sl _ _]) (by decide) (by exact tI)))
 refine rX ?_ (x := (dG (ag := true) (cs := [val _, sl _ _]) (by decide) (by exact tI)))
 refine rA ?_ (x := iz (.inr rfl) (by decide) (jl (t := 3) (e := 1)))
 refine rK ?_
 refine sT [2, 3, 4, 6, 7] [3, 4] ?_
 refine rA ?_ (x := lF XO)
 refine rA ?_ (x := lD [sl .v _] XQ)
 refine rA ?_ (x := cL [(false, [sl _ _])] [(false, [sl .v _])] Xe (hs := by exact ZL (by omega)))
 refine rA ?_ (x := tA)
 refine sS [2, 3, 4, 6, 7, 8] [3, 4] ?_
 refine fh ?_
 refine sS [2, 3, 4, 6, 7, 8, 9] [3, 4] ?_
 refine cH ?_
 refine sP [2, 3, 4, 6, 7, 8, 9, 10] [3, 4] ?_
 refine sL [2, 3, 4, 6, 7] [3, 4] (fun k : Nat => k ≤ o.length) (fun k : Nat => [(8, RV.slc aa ((fm x r o k).1.map ak)), (9, RV.int (fm x r o k).2), (10, RV.int (k : Int))]) (fun k : Nat => []) (fun k : Nat => o.length - k) 0 (by omega) (by exact aI (by exact rfl) (aI (by exact rfl) (aI (by exact rfl) tI))) (by exact tI) ?_
 rintro k hk
 refine jX ?_
 refine rM ?_
 refine cx 19 (fun ga sga => ?_) (fun ga sga => ?_)
 refine rB ga ?_ (x := vM false [sl .v _])
 refine rB ga ?_ (x := lN bF)
 refine rB ga ?_ (x := eN)
 refine rA ?_ (x := aT ga)
 refine sc (fun hba => ?_) (fun hba => ?_)
 have hlt : k < o.length := (by first | omega | (simp_all; done) | (simp_all; omega))
 have hne : (fm x r o k).1 ≠ [] := by intro e; simp_all
 have hof := ho.2 o[k] (List.getElem_mem hlt)
 have hff : o[k].toNat < x.Fields.length := by omega
 have hrf : o[k].toNat < r.Values.length := by omega
 have hpl := NX hq.1 r o k
 have hxf := hx.2.2 o[k].toNat (by omega)
 have hsi := VO x.Queries (o[k].toNat : Int)
 rw [← hxf] at hsi
 have hss : ∀ s ∈ x.Fields.getD o[k].toNat [], s.Set.length ≤ 1048576 := fun s hs => Nat.le_trans (hsi.2 s hs) (by decide)
 have hfl := VR hsi.2 (iu r.Values o[k])
 have hpe := NV (x := x) (r := r) hlt hne
 refine cO ?_
 refine sQ [2, 3, 4, 6, 7, 8, 9, 10] [3, 4] ?_
 refine dw dl ?_
 refine dA 0 ?_ (x := lF Da)
 refine dA 1 ?_ (x := lD [sl .v _] Dc)
 refine eY ?_
 refine dA 12 ?_ (x := aY (by decide) bF (by exact tI) (by exact rfl) (by exact bc (by omega) rfl) (by exact rfl))
 refine dA 28 ?_ (x := lE [val _] au)
 refine dA 63 ?_ (x := aY (k := o[k].toNat) (by decide) Db (by exact tI) (by omega) (by exact bc hff (by rw [iH (d := ([] : List eA)) hff])) (by exact rfl))
 refine dA 127 ?_ (x := lE [sl .v _] XR)
 refine dA 0 ?_ (x := lF iw)
 refine dA 256 ?_ (x := lD [sl .v _] bv)
 refine eY ?_
 refine dA 3072 ?_ (x := aY (by decide) bF (by exact tI) (by exact rfl) (by exact bc (by omega) rfl) (by exact rfl))
 refine dA 7168 ?_ (x := lE [val _] au)
 refine dA 16128 ?_ (x := aY (k := o[k].toNat) (by decide) bF (by exact tI) (by omega) (by exact bc hrf (by rw [iH (d := (0 : Int)) hrf])) (by exact rfl))
 refine dA 32512 ?_ (x := lE [val _] au)
 refine dA 65535 ?_ (x := cL [(false, [sl _ _]), (false, [val _])] [(false, [sl .v _]), (false, [val _])] Xf (hs := by exact (ZI (l := x.Fields.getD o[k].toNat []) (v := iu r.Values o[k]) hss)))
 refine dA 131071 ?_ (x := tA)
 refine sS [2, 3, 4, 6, 7, 8, 9, 10, 11] [3, 4] ?_
 refine rM ?_
 refine rA ?_ (x := kV)
 refine lP ?_
 refine lP ?_
 refine rA ?_ (x := Ey (by decide) (by exact tI) (by exact tI))
 refine rA ?_ (x := kV)
 refine rS ?_
 refine sG [2, 3, 4, 6, 7, 8, 9, 10, 11] [3, 4] ?_
 refine rA ?_ (x := vM false [sl .v _])
 refine rA ?_ (x := vM false [sl .v _])
 refine rA ?_ (x := cL [(false, [sl _ _]), (false, [sl _ _])] [(false, [sl .v _]), (false, [sl .v _])] Xg (hs := by exact ZA))
 refine rA ?_ (x := tA)
 refine sG [2, 3, 4, 6, 7, 8, 9, 10, 11] [3, 4] ?_
 refine cW ?_
 refine nx (k + 1) (by omega) (e := (by exact aI (by exact cG (by rw [hpe])) (aI (by exact bh (by rw [hpe])) (aI (by exact rfl) tI))))
 exact Hi
 refine pL ?_
 exact Hi
end Go.Proofs.YtmekkgdboplbjaaGreat
