/- What functions of the program compute. No condition. -/
import Derived.Test.YtmekkgdboplbjaaGreatCP0
set_option linter.all false
namespace Go.Proofs.YtmekkgdboplbjaaGreat
open Go Go.RowKit M PV Tryz
set_option maxRecDepth 10000
attribute [local irreducible] PV.Lcl PV.LclR RV.Lcl
def TN : dY prog 124 = some [(0, 1), (1, 1)] := by kernel_rfl
def acL {p1 p2 : Fl} {l : List aeA}  : aN prog 178 [(false, [sl .v (l.map (ln p1 p2))])] (aJ [(true, [sl qi ((mL l).Queries.map (ln aD ab)), sl (.own 243 1) ((mL l).Fields.map (Ek rW ab))])]) := by
 refine sF func178 fun h0 w0 Fz0 => ?_
 refine sj 0 fun hl0 => ?_
 refine sR ?_
 refine rX ?_ (x := (cr (by decide) Ah Aj))
 refine be ?_
 refine sT [0, 2] [2] ?_
 refine rA ?_ (x := vM false [sl .v _])
 refine rA ?_ (x := cL [(false, [sl _ _])] [(false, [sl .v _])] EX (hs := by exact GN))
 refine rA ?_ (x := nT)
 refine sc ?_ ?_ <;> intro hba
 have hok : dK l = false := by simpa using hba
 refine sS [0, 2] [2] ?_
 refine rA ?_ (x := dp (qs := []) (cs := [sl _ _, sl _ _]) (by decide) Ah Aj TN (by exact rfl) (by exact tI) rfl (by exact rfl))
 refine Ps ?_
 exact (bw 2 (bw _ (aI (by exact rfl) (aI (by refine dZ ?_; rw [XR hok]; exact rfl) (aI tZ (aI (fun h => nomatch h) tI))))))
 have hok : dK l = true := by simpa using hba
 have hqw := XN hok
 have hql := pP hok
 refine bb ?_
 refine sS [0, 2] [2] ?_
 refine rA ?_ (x := vM false [sl .v _])
 refine rA ?_ (x := cL [(false, [sl _ _])] [(false, [sl .v _])] YI (hs := by exact acK (by omega)))
 refine rA ?_ (x := dp (qs := [(false, [sl _ _])]) (cs := [sl _ _, sl _ _]) (by decide) Ah Aj TN (by exact rfl) (by exact (aI (by exact tI) tI)) rfl (by exact rfl))
 refine Oy ?_
 refine dJ ?_
 refine sO [(0, _), (2, _), (3, _)] [(2, _), (3, (124, [sl _ _, sl _ _]))] ?_
 refine bd ?_
 refine ca ?_
 refine sP [0, 2, 3, 4] [2, 3] ?_
 refine sL [0, 2, 3] [2] (fun k : Nat => k ≤ 3) (fun k : Nat => [(4, RV.int (k : Int))]) (fun k : Nat => [(3, (124, (El qi aD ab (.own 243 1) rW ab) ⟨l, pQ l k⟩))]) (fun k : Nat => 3 - k) 0 (by omega) (by exact aI (by exact rfl) tI) (by exact aI (by exact rfl) tI) ?_
 rintro k hk
 refine qR ?_
 refine sc ?_ ?_ <;> intro hbb
 have hlt : k < 3 := by omega
 have hfl := XP (l := l) (k := k)
 refine bi ?_
 refine sQ [0, 2, 3, 4] [2, 3] ?_
 refine da cG ?_
 refine dA 0 ?_ (x := lF Fc)
 refine dA 1 ?_ (x := cP (ms := [sl _ _]) (qs := [sl .v _]) (by decide) Ff (fun _ => rfl) (by exact nl rfl) (by exact rfl) (by exact (aB ao.nil)) (by exact (aj.cons (bor_sl _) aj.nil)))
 refine eY ?_
 refine dA 12 ?_ (x := cL [(false, [sl _ _]), (false, [val _])] [(false, [sl .v _]), (false, [val _])] YJ (hs := by exact acI))
 refine dA 28 ?_ (x := bP (qs := [(false, [sl _ _])]) (by decide) Fe RO (by decide) rfl rfl rfl rfl rfl (by exact nl rfl) (by exact (aI (by exact tI) tI)) rfl)
 refine dA 63 ?_ (x := en (by decide) Fe RO rfl rfl (by decide) rfl (by simp only [aw, aM, List.length_cons, List.length_nil]; omega) (by simp only [aw, aM, List.length_cons, List.length_nil]; omega))
 refine dA 127 ?_ (x := lF Fc)
 refine dA 255 ?_ (x := bh (ag := false) (vs := [sl _ _]) Ff (by exact tI) (by exact rfl) (by exact nl rfl))
 refine sO [(0, _), (2, _), (3, _), (4, _)] [(2, _), (3, (124, [sl _ _, sl _ _]))] ?_
 refine pE ?_
 refine nx (k + 1) (by omega) (e := (by exact aI (by exact bk (by omega)) tI)) (f := (by exact aI (by simp only [XO]; show _ = some (124, (El qi aD ab (.own 243 1) rW ab) (jT.mk l (pQ l k ++ [gK l (k : Int)]))); simp only [El, bj]; exact rfl) tI))
 have hend : k = 3 := by omega
 refine bq ?_
 refine sT [0, 2, 3, 4] [2, 3] ?_
 refine rA ?_ (x := cP (ms := [sl _ _, sl _ _]) (qs := [sl .v _, sl .v _]) (by decide) tZ (fun h => nomatch h) (by exact nl rfl) (by exact rfl) (by exact (aB (aB ao.nil))) (by exact (aj.cons (bor_sl _) (aj.cons (bor_sl _) aj.nil))))
 refine Ps ?_
 exact (bw 2 (bw _ (aI (by exact rfl) (aI (by refine dZ ?_; subst hend; rw [XQ hok]; exact rfl) (aI tZ (aI (fun h => nomatch h) tI))))))
def acM {p1 p2 : Fl} {l : List aeA}  (hb : l.length ≤ 1048576) : aN prog 248 [(false, [sl .v (l.map (ln p1 p2))])] (aJ [(false, [sl ab ((pR l).map am)])]) := by
 refine sF func248 fun h0 w0 Fz0 => ?_
 refine sj 0 fun hl0 => ?_
 refine qC ?_
 refine sS [0, 2] [] ?_
 refine np ?_
 refine tg ?_
 refine sL [0, 2] [] (fun k : Nat => k ≤ l.length) (fun k : Nat => [(3, RV.slc ab ((pR (l.take k)).map am)), (4, RV.int (k : Int))]) (fun k : Nat => []) (fun k : Nat => l.length - k) 0 (by omega) (by exact aI (by exact rfl) (aI (by exact rfl) tI)) (by exact tI) ?_
 rintro k hk
 refine oq ?_
 refine yS ?_
 refine sc ?_ ?_ <;> intro hba
 have hlt : k < l.length := by omega
 have htl : (pR (l.take k)).length = k := by unfold pR; rw [aw, bv]; omega
 refine bi ?_
 refine sG [0, 2, 3, 4] [] ?_
 refine rA ?_ (x := tM)
 refine yA ?_
 refine vr ?_
 refine ll ?_
 refine sG [0, 2, 3, 4] [] ?_
 refine cb ?_
 refine nx (k + 1) (by omega) (e := (by exact aI (by exact bG (by unfold pR; rw [zA hlt, bj]; rfl)) (aI (by exact rfl) tI)))
 have hend : k = l.length := by omega
 exact BO
def acN {o : List Int}  : aN prog 63 [(false, [sl .v (o.map am)])] (aJ [(false, [val (.bool (gw o))])]) := by
 refine sF func63 fun h0 w0 Fz0 => ?_
 refine sj 0 fun hl0 => ?_
 refine sZ ?_
 refine gS ?_
 refine rA ?_ (x := dr)
 refine sc ?_ ?_ <;> intro hba
 have hbad : gw o = false := by unfold gw; rw [decide_eq_false (by omega)]; rfl
 refine sS [0, 2] [] ?_
 exact lJ
 have hl3 : o.length = 3 := by omega
 refine eG ?_
 refine sS [0, 2] [] ?_
 refine ca ?_
 refine sP [0, 2, 3] [] ?_
 refine sL [0] [] (fun k : Nat => k ≤ o.length ∧ tW o k = true) (fun k : Nat => [(3, RV.int (k : Int))]) (fun k : Nat => []) (fun k : Nat => o.length - k) 0 (by exact ⟨by omega, rfl⟩) (by exact aI (by exact rfl) tI) (by exact tI) ?_
 rintro k ⟨hk, ha⟩
 refine jR ?_
 refine sc ?_ ?_ <;> intro hbb
 have hlt : k < o.length := by omega
 have hgk := df (d := (0 : Int)) hlt
 refine dh ?_
 refine sP [0, 3] [] ?_
 refine ox ?_
 refine Oq ?_
 refine dA 63 ?_ (x := sM)
 refine dx 19 (fun ga sga => ?_) (fun ga sga => ?_)
 refine dT 127 ga ?_
 refine dT 127 ga ?_
 refine dT 511 ga ?_
 refine dT 127 ga ?_
 refine dT 127 ga ?_
 refine dT 3199 ga ?_
 refine dT 7295 ga ?_
 refine dT 16383 ga ?_
 refine dA 32767 ?_ (x := aO ga)
 refine cv ?_
 exact JB
 refine dB 127 ga ?_ (x := vM false [sl .v _])
 refine dB 127 ga ?_ (x := sM)
 refine dB 511 ga ?_ (x := se (i := 0) (j := k) (ys := (o.take k)) (q := (0 : Int)) (by decide) bC (by exact rfl) (by exact tI) (by omega) (by omega) (by omega) (by omega) (fun _ => rfl) (by simp))
 refine dB 127 ga ?_ (x := vM false [sl .v _])
 refine dB 127 ga ?_ (x := sM)
 refine dB 3199 ga ?_ (x := aU (by decide) bC (by exact tI) (by exact rfl) (by exact aW (by omega) rfl) (by exact rfl))
 refine dB 7295 ga ?_ (x := lE [val _] az)
 refine dB 16383 ga ?_ (x := cL [(false, [sl _ _]), (false, [val _])] [(false, [sl .v _]), (false, [val _])] zF (hs := by exact Ak))
 refine dA 32767 ?_ (x := aF ga)
 refine sc ?_ ?_ <;> intro hbc
 exact JB
 have hyes : (aK (o.getD k 0) 0 2 && !bB (o.take k) (o.getD k 0)) = true := by rw [← hgk]; simp_all
 refine qP ?_
 refine cb ?_
 refine nx (k + 1) (by exact ⟨by omega, by rw [WY, ha, hyes]; rfl⟩)
 have hend : k = 3 := by omega
 rw [hend, Qw hl3] at ha
 refine qQ ?_
 refine cm ?_
 exact rb (ha.symm)
def acO {p1 p2 p4 p5 : Fl} {x : jT} {r : Row} {o : List Int}  (hxo : wB x = true) (hro : cf r = true) (hoo : gw o = true) : aN prog 180 [(true, [sl .v (x.Queries.map (ln p1 p2)), sl .v (x.Fields.map (Ek p4 p5))]), (true, [val (vI r.Id), sl .v (r.Values.map am)]), (false, [sl .v (o.map am)])] (aJ [(false, [sl ab ((ru x r o).1.map am)]), (false, [val (vI (ru x r o).2)])]) := by
 refine sF func180 fun h0 w0 Fz0 => ?_
 refine sn 0 0 fun hl0_0 => ?_
 refine sn 0 1 fun hl0_1 => ?_
 refine sn 1 1 fun hl1_1 => ?_
 refine sj 2 fun hl2 => ?_
 have hx := WW hxo
 have hq := pP hx.1
 have ho := Qv hoo
 have hrl := rg hro
 refine sR ?_
 refine rX ?_ (x := (eD (ag := true) (cs := [sl _ _, sl _ _]) (by decide) (by exact tI)))
 refine rX ?_ (x := (eD (ag := true) (cs := [val _, sl _ _]) (by decide) (by exact tI)))
 refine rA ?_ (x := kx (.inr rfl) (by decide) (lG (t := 3) (e := 1)))
 refine rK ?_
 refine sT [2, 3, 4, 6, 7] [3, 4] ?_
 refine rA ?_ (x := lF ZF)
 refine rA ?_ (x := lD [sl .v _] ZH)
 refine rA ?_ (x := cL [(false, [sl _ _])] [(false, [sl .v _])] YK (hs := by exact acM (by omega)))
 refine rA ?_ (x := tA)
 refine sS [2, 3, 4, 6, 7, 8] [3, 4] ?_
 refine eH ?_
 refine sS [2, 3, 4, 6, 7, 8, 9] [3, 4] ?_
 refine ca ?_
 refine sP [2, 3, 4, 6, 7, 8, 9, 10] [3, 4] ?_
 refine sL [2, 3, 4, 6, 7] [3, 4] (fun k : Nat => k ≤ o.length) (fun k : Nat => [(8, RV.slc ab ((fu x r o k).1.map am)), (9, RV.int (fu x r o k).2), (10, RV.int (k : Int))]) (fun k : Nat => []) (fun k : Nat => o.length - k) 0 (by omega) (by exact aI (by exact rfl) (aI (by exact rfl) (aI (by exact rfl) tI))) (by exact tI) ?_
 rintro k hk
 refine jR ?_
 refine rM ?_
 refine cx 19 (fun ga sga => ?_) (fun ga sga => ?_)
 refine rB ga ?_ (x := vM false [sl .v _])
 refine rB ga ?_ (x := lN bC)
 refine rB ga ?_ (x := dI)
 refine rA ?_ (x := aO ga)
 refine sc ?_ ?_ <;> intro hba
 have hlt : k < o.length := (by first | omega | (simp_all; done) | (simp_all; omega))
 have hne : (fu x r o k).1 ≠ [] := by intro e; simp_all
 have hof := ho.2 o[k] (List.getElem_mem hlt)
 have hff : o[k].toNat < x.Fields.length := by omega
 have hrf : o[k].toNat < r.Values.length := by omega
 have hpl := Qz hq.1 r o k
 have hxf := hx.2.2 o[k].toNat (by omega)
 have hsi := WS x.Queries (o[k].toNat : Int)
 rw [← hxf] at hsi
 have hss : ∀ s ∈ x.Fields.getD o[k].toNat [], s.Set.length ≤ 1048576 := fun s hs => Nat.le_trans (hsi.2 s hs) (by decide)
 have hfl := WV hsi.2 (gU r.Values o[k])
 have hpe := Qx (x := x) (r := r) hlt hne
 refine dh ?_
 refine sQ [2, 3, 4, 6, 7, 8, 9, 10] [3, 4] ?_
 refine da cG ?_
 refine dA 0 ?_ (x := lF Fc)
 refine dA 1 ?_ (x := lD [sl .v _] Ff)
 refine eY ?_
 refine dA 12 ?_ (x := aU (by decide) bC (by exact tI) (by exact rfl) (by exact aW (by omega) rfl) (by exact rfl))
 refine dA 28 ?_ (x := lE [val _] az)
 refine dA 63 ?_ (x := aU (k := o[k].toNat) (by decide) Fe (by exact tI) (by omega) (by exact aW hff (by rw [df (d := ([] : List eI)) hff])) (by exact rfl))
 refine dA 127 ?_ (x := lE [sl .v _] ZI)
 refine dA 0 ?_ (x := lF jv)
 refine dA 256 ?_ (x := lD [sl .v _] bF)
 refine eY ?_
 refine dA 3072 ?_ (x := aU (by decide) bC (by exact tI) (by exact rfl) (by exact aW (by omega) rfl) (by exact rfl))
 refine dA 7168 ?_ (x := lE [val _] az)
 refine dA 16128 ?_ (x := aU (k := o[k].toNat) (by decide) bC (by exact tI) (by omega) (by exact aW hrf (by rw [df (d := (0 : Int)) hrf])) (by exact rfl))
 refine dA 32512 ?_ (x := lE [val _] az)
 refine dA 65535 ?_ (x := cL [(false, [sl _ _]), (false, [val _])] [(false, [sl .v _]), (false, [val _])] YL (hs := by exact (acJ (l := x.Fields.getD o[k].toNat []) (v := gU r.Values o[k]) hss)))
 refine dA 131071 ?_ (x := tA)
 refine sS [2, 3, 4, 6, 7, 8, 9, 10, 11] [3, 4] ?_
 refine wh ?_
 refine gS ?_
 refine gS ?_
 refine rA ?_ (x := Hm (by decide) (by exact tI) (by exact tI))
 refine lh ?_
 refine sG [2, 3, 4, 6, 7, 8, 9, 10, 11] [3, 4] ?_
 refine rA ?_ (x := vM false [sl .v _])
 refine rA ?_ (x := vM false [sl .v _])
 refine rA ?_ (x := cL [(false, [sl _ _]), (false, [sl _ _])] [(false, [sl .v _]), (false, [sl .v _])] YN (hs := by exact acD))
 refine rA ?_ (x := tA)
 refine sG [2, 3, 4, 6, 7, 8, 9, 10, 11] [3, 4] ?_
 refine cb ?_
 refine nx (k + 1) (by omega) (e := (by exact aI (by exact bG (by rw [hpe])) (aI (by exact bk (by rw [hpe])) (aI (by exact rfl) tI))))
 exact JC
 refine mD ?_
 exact JC
end Go.Proofs.YtmekkgdboplbjaaGreat
