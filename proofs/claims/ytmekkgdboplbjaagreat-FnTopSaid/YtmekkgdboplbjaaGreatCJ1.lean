/- What functions of the program compute. No condition. -/
import Derived.Test.YtmekkgdboplbjaaGreatCD0
import Derived.Test.YtmekkgdboplbjaaGreatCF0
import Derived.Test.YtmekkgdboplbjaaGreatCI0
set_option linter.all false
namespace Go.Proofs.YtmekkgdboplbjaaGreat
open Go Go.RowKit M PV Tryz
set_option maxRecDepth 10000
attribute [local irreducible] PV.Lcl PV.LclR RV.Lcl
attribute [local irreducible] au jc
def ad5 : dY prog 192 = some [(0, 1), (1, 1), (2, 1)] := by kernel_rfl
def ad6 : dY prog 54 = some [(0, 1), (1, 1)] := by kernel_rfl
def Ud : prog.underlying 3 = some (.int .i64) := by kernel_rfl
def Ue : prog.underlying 5 = some (.int .u8) := by kernel_rfl
def ad7 {code : List Int}  (hb : code.length ≤ 9223372036854775807) (hb2 : code.length ≤ 4611686018427387904) : BC prog 71 192 [(false, [sl .v (code.map re)])] (ez .v (ax code hb)) := by
 refine Vw (rs := 2) func71 rfl rfl (nl rfl) (gR (aj.cons (bor_sl _) aj.nil) gr) (by exact (aj.cons (bor_sl _) (aj.cons (bor_val _) (aj.cons (bor_val _) aj.nil)))) ?_
 intro h0 w0 Fz0
 refine sj 0 fun hl0 => ?_
 refine wi ?_
 refine rA ?_ (x := vM false [sl .v _])
 refine rA ?_ (x := lN tS)
 refine lh ?_
 refine be ?_
 refine tg ?_
 refine sL [0, 2] [] (fun k : Nat => k ≤ code.length ∧ k ≤ 4000) (fun k : Nat => [(3, RV.int (AB code k)), (4, RV.int (k : Int))]) (fun k : Nat => []) (fun k : Nat => code.length - k) 0 (by omega) (by exact aI (by exact rfl) (aI (by exact rfl) tI)) (by exact tI) ?_
 rintro k ⟨hk, hk4⟩
 refine oq ?_
 refine rA ?_ (x := lN tS)
 refine rA ?_ (x := dq)
 refine rM ?_
 refine cx 12 (fun ga sga => ?_) (fun ga sga => ?_)
 refine vJ ?_
 refine rA ?_ (x := aO ga)
 refine sc ?_ ?_ <;> intro hba
 have hlt : k < code.length := by omega
 have hl4 : k < 4000 := by omega
 refine bi ?_
 refine sG [0, 2, 3, 4] [] ?_
 refine rM ?_
 refine rA ?_ (x := HY (by decide) (by exact tI) (bM rfl))
 refine jp ?_
 refine rA ?_ (x := aU (by decide) tS (by exact tI) (by exact rfl) (by exact aW (by omega) rfl) (by exact rfl))
 refine rA ?_ (x := lE [val _] RN)
 refine rA ?_ (x := HS Ue Ud rfl)
 refine rA ?_ (x := xG (by decide) (by exact tI) (by exact tI))
 refine rA ?_ (x := xG (by decide) (by exact tI) (bM rfl))
 refine rA ?_ (x := xH (by decide) (by exact tI) (bM rfl))
 refine rS ?_
 refine sG [0, 2, 3, 4] [] ?_
 refine cb ?_
 refine nx (k + 1) (by omega) (e := (by exact aI (by exact bk (by rw [AB, List.getD_eq_getElem?_getD, List.getElem?_eq_getElem hlt]; rfl)) (aI (by exact bk (by omega)) tI)))
 exact LV
 refine mD ?_
 exact LV
def ad8 {o : Fl} {c : ba} (hbo : ∀ es, (sl o es).Bor)  : iO prog 235 192 (ez o c) (ez o (jc c).2) [] (aJ [(false, [val (vI (jc c).1)])]) := by
 refine kC (rs := [(false, [val (vI (jc c).1)])]) func235 rfl (nl rfl) (nl rfl) ?_
 intro g_ h0 w0 Fz0
 have hcb := c.hb
 refine sR ?_
 refine eH ?_
 refine sO [(0, _), (2, _), (5000, _)] [(0, (192, [sl o _, val _, val _]))] ?_
 refine qF ?_
 refine lL ?_
 refine rA ?_ (x := lF Af)
 refine rA ?_ (x := lD [val _] az)
 refine rA ?_ (x := HY (by decide) (by exact tI) (bM rfl))
 refine rA ?_ (x := xG (by decide) (by exact tI) (bM rfl))
 refine rA ?_ (x := iP (by decide))
 refine rA ?_ (x := lF Af)
 refine my ?_
 refine sO [(0, _), (2, _), (5000, _)] [(0, (192, [sl o _, val _, val _]))] ?_
 refine pD ?_
 refine dA 3 ?_ (x := lF Af)
 refine dA 7 ?_ (x := lD [val _] az)
 refine dA 15 ?_ (x := BA (m := 33) rfl (by decide))
 refine qD ?_
 refine dA 96 ?_ (x := lF Af)
 refine dA 224 ?_ (x := lD [val _] az)
 refine dA 480 ?_ (x := BA (m := 45) rfl (by decide))
 refine dA 1023 ?_ (x := Vy (by decide) (by exact tI) (by exact tI))
 refine dA 2047 ?_ (x := xH (by decide) (by exact tI) (bM rfl))
 refine dA 4095 ?_ (x := sA)
 refine dJ ?_
 refine sP [0, 2, 3, 5000] [0] ?_
 refine pD ?_
 refine dA 3 ?_ (x := lF Ae)
 refine dA 7 ?_ (x := lD [val _] az)
 refine dA 0 ?_ (x := cM Cp.ptr)
 refine dA 16 ?_ (x := iP (by decide))
 refine dA 48 ?_ (x := lF RK)
 refine dA 112 ?_ (x := lD [sl .v _] Fg)
 refine dA 240 ?_ (x := lN tS)
 refine dA 511 ?_ (x := dq)
 refine sc ?_ ?_ <;> intro hba
 have hlt : c.i < c.b.length := by omega
 have hr := aaI hlt
 have hge : c.b[c.i] = c.b.getD c.i 0 := by rw [List.getD_eq_getElem?_getD, List.getElem?_eq_getElem hlt]; rfl
 refine be ?_
 refine sP [0, 2, 3, 5000] [0] ?_
 refine qE ?_
 refine vw ?_
 refine dA 6 ?_ (x := lF RK)
 refine dA 14 ?_ (x := lD [sl .v _] Fg)
 refine qD ?_
 refine dA 96 ?_ (x := lF Ae)
 refine dA 224 ?_ (x := lD [val _] az)
 refine dA 510 ?_ (x := aU (k := c.i) (by decide) tS (by exact tI) (by rfl) (by exact aW hlt (by rw [hge])) (by exact rfl))
 refine dA 1022 ?_ (x := lE [val _] RN)
 refine dA 2046 ?_ (x := HS Ue Ud rfl)
 refine dA 4095 ?_ (x := xG (by decide) (by exact tI) (by exact tI))
 refine dA 8191 ?_ (x := xH (by decide) (by exact tI) (bM rfl))
 refine dA 16383 ?_ (x := sA)
 refine sG [0, 2, 3, 5000] [0] ?_
 refine vV ?_
 refine rA ?_ (x := lF Ae)
 refine DX ?_
 refine rA ?_ (x := lF Ae)
 refine my ?_
 refine sO [(0, _), (2, _), (3, _), (5000, _)] [(0, (192, [sl o _, val _, val _]))] ?_
 refine bd ?_
 exact LW
 have hr := aaJ (c := c) (by omega)
 refine bb ?_
 refine sS [0, 2, 3, 5000] [0] ?_
 exact LW
def xb {o : Fl} {c : ba} (hbo : ∀ es, (sl o es).Bor) {n : Int}  (hn : n ≤ 256) : iO prog 169 192 (ez o c) (ez o (au c n).2) [(false, [val (vI n)])] (aJ [(false, [val (vI (au c n).1)])]) := by
 refine kC (rs := [(false, [val (vI (au c n).1)])]) func169 rfl (nl rfl) (nl rfl) ?_
 intro g_ h0 w0 Fz0
 refine sR ?_
 refine eH ?_
 refine be ?_
 refine yG ?_
 refine rM ?_
 refine rA ?_ (x := ix)
 refine sc ?_ ?_ <;> intro hba
 have hr := Si (c := c) hba
 refine sS [0, 1, 4, 5000] [0] ?_
 refine rK ?_
 exact LX
 have hn0 : 0 < n := by omega
 have hr := FV (c := c) hn0
 refine eG ?_
 refine sS [0, 1, 4, 5000] [0] ?_
 refine rM ?_
 refine rA ?_ (x := ix)
 refine sc ?_ ?_ <;> intro hbb
 refine sS [0, 1, 4, 5000] [0] ?_
 refine rA ?_ (x := cM Cp.ptr)
 refine rA ?_ (x := hO (bx := 0) (qs := []) (as_ := []) (by decide) YF rfl (by exact tI) (by exact tI) (by exact (aj.cons (hbo _) (aj.cons (bor_val _) (aj.cons (bor_val _) aj.nil)))) (by exact gr) (by exact (ad8 hbo)))
 refine rM ?_
 refine rA ?_ (x := xB (by decide) (by exact tI) (by exact tI) (by omega))
 refine rS ?_
 exact LX
 omega
def Uf {o : Fl} {c : ba} (hbo : ∀ es, (sl o es).Bor) {l : List Int}  (hl : 0 < l.length) (hl2 : l.length ≤ 256) : iO prog 142 192 (ez o c) (ez o (bR c l).2) [(false, [sl .v (l.map am)])] (aJ [(false, [val (vI (bR c l).1)])]) := by
 refine kC (rs := [(false, [val (vI (bR c l).1)])]) func142 rfl (nl rfl) (nl rfl) ?_
 intro g_ h0 w0 Fz0
 refine sj 1 fun hl1 => ?_
 have hg := dS c (l.length : Int)
 have hg2 := eA c (n := (l.length : Int)) (by omega)
 refine sR ?_
 refine eH ?_
 refine yG ?_
 refine rA ?_ (x := vM false [sl .v _])
 refine rA ?_ (x := cM Cp.ptr)
 refine gS ?_
 refine rA ?_ (x := hO (bx := 0) (qs := [(false, [val _])]) (as_ := [(false, [val _])]) (by decide) wF rfl (by exact (aI (by exact tI) tI)) (by exact (aI (aI rfl (ak ao.nil)) tI)) (by exact (aj.cons (hbo _) (aj.cons (bor_val _) (aj.cons (bor_val _) aj.nil)))) (by exact (gR (aj.cons (bor_val _) aj.nil) gr)) (by exact (xb hbo (by omega))))
 refine rA ?_ (x := aU (k := (au c (l.length : Int)).1.toNat) (by decide) bC (by exact tI) (by omega) (by exact aW (by omega) rfl) (by exact rfl))
 refine rA ?_ (x := lE [val _] az)
 refine db ?_
 exact ⟨(by exact rfl), rfl, (aI (by refine bk ?_; show _ = l.getD _ 0; rw [List.getD_eq_getElem?_getD, List.getElem?_eq_getElem (by omega)]; rfl) tI)⟩
def Ug {o : Fl} {c : ba} (hbo : ∀ es, (sl o es).Bor) {n : Int}  (hn : n ≤ 256) : iO prog 236 192 (ez o c) (ez o (au c n).2) [(false, [val (vI n)])] (aJ [(false, [val (.bool (decide ((au c n).1 = 0)))])]) := by
 refine kC (rs := [(false, [val (.bool (decide ((au c n).1 = 0)))])]) func236 rfl (nl rfl) (nl rfl) ?_
 intro g_ h0 w0 Fz0
 refine sR ?_
 refine eH ?_
 refine yG ?_
 refine zi ?_
 refine lK ?_
 refine cT ?_
 exact ⟨(by exact rfl), rfl, (aI (by exact rfl) tI)⟩
def Uh {o : Fl} {c : ba} (hbo : ∀ es, (sl o es).Bor) {id : Int}  : iO prog 252 192 (ez o c) (ez o (gA c id).2) [(false, [val (vI id)])] (aJ [(true, [val (vI (gA c id).1.Id), sl ab ((gA c id).1.Values.map am)])]) := by
 refine kC (rs := [(true, [val (vI (gA c id).1.Id), sl ab ((gA c id).1.Values.map am)])]) func252 rfl (nl rfl) (nl rfl) ?_
 intro g_ h0 w0 Fz0
 have hp3 := aaM c
 refine sR ?_
 refine yM ?_
 refine sO [(0, _), (1, _), (4, _), (5000, _)] [(0, (192, [sl o _, val _, val _])), (4, (54, [val _, sl _ _]))] ?_
 refine lP ?_
 refine rA ?_ (x := dp (qs := [(false, [val _])]) (cs := [val _, sl _ _]) (by decide) gJ mb ad6 (by exact rfl) (by exact (aI (by exact tI) tI)) rfl (by exact rfl))
 refine CV ?_
 refine be ?_
 refine sO [(0, _), (1, _), (4, _), (5, _), (5000, _)] [(0, _), (4, _), (5, (54, [val _, sl _ _]))] ?_
 refine qF ?_
 refine MB ?_
 refine hZ ?_
 refine sS [0, 1, 4, 5, 6, 5000] [0, 4, 5] ?_
 refine ca ?_
 refine sP [0, 1, 4, 5, 6, 7, 5000] [0, 4, 5] ?_
 refine sL [0, 1, 4, 5, 6, 5000] [4] (fun k : Nat => k ≤ 3) (fun k : Nat => [(7, RV.int (k : Int))]) (fun k : Nat => [(0, (192, ez o (iE (bR c [3, 6, 100]).1 (bR c [3, 6, 100]).2 k).2)), (5, (54, [val (vI id), sl ab ((iE (bR c [3, 6, 100]).1 (bR c [3, 6, 100]).2 k).1.map am)]))]) (fun k : Nat => 3 - k) 0 (by omega) (by exact aI (by exact rfl) tI) (by exact aI (by exact rfl) (aI (by exact rfl) tI)) ?_
 rintro k hk
 have hvl : ((iE (bR c [3, 6, 100]).1 (bR c [3, 6, 100]).2 k).1).length = k := ug
 refine qR ?_
 refine sc ?_ ?_ <;> intro hba
 have hlt : k < 3 := by omega
 refine dh ?_
 refine sO [(0, _), (1, _), (4, _), (5, _), (6, _), (7, _), (5000, _)] [(0, (192, [sl o _, val _, val _])), (4, (54, [val _, sl _ _])), (5, (54, [val _, sl _ _]))] ?_
 refine qF ?_
 refine Mt ?_
 refine rS ?_
 refine sG [0, 1, 4, 5, 6, 7, 8, 5000] [0, 4, 5] ?_
 refine rA ?_ (x := lF jv)
 refine qW ?_
 refine rA ?_ (x := lF jv)
 refine rA ?_ (x := bh (ag := false) (vs := [sl _ _]) bF (by exact tI) (by exact rfl) (by exact nl rfl))
 refine sO [(0, _), (1, _), (4, _), (5, _), (6, _), (7, _), (8, _), (5000, _)] [(0, _), (4, _), (5, (54, [val _, sl _ _]))] ?_
 refine pE ?_
 refine nx (k + 1) (by omega) (e := (by exact aI (by exact bk (by omega)) tI)) (f := (by exact aI (by exact rfl) (aI (by simp only [iE, bj]; exact rfl) tI)))
 have hend : k = 3 := by omega
 refine er ?_
 refine sO [(0, _), (1, _), (4, _), (5, _), (6, _), (7, _), (5000, _)] [(0, (192, [sl o _, val _, val _])), (4, (54, [val _, sl _ _])), (5, (54, [val _, sl _ _]))] ?_
 refine bd ?_
 refine rA ?_ (x := cP (ms := [val _, sl _ _]) (qs := [val _, sl .v _]) (by decide) fj (fun h => nomatch h) (by exact nl rfl) (by exact rfl) (by exact (ak (aB ao.nil))) (by exact (aj.cons (bor_val _) (aj.cons (bor_sl _) aj.nil))))
 refine rA ?_ (x := bh (ag := true) (vs := [val _, sl _ _]) fj (by exact tI) (by exact rfl) (by exact nl rfl))
 refine cT ?_
 exact ⟨(by subst hend; exact rfl), rfl, (bw 4 (bw _ (aI (by exact rfl) (aI (by refine dZ ?_; subst hend; exact rfl) (aI fj (aI (fun h => nomatch h) tI))))))⟩
def ad9 {o : Fl} {c : ba} (hbo : ∀ es, (sl o es).Bor) {most : Int}  (hm : 0 ≤ most ∧ most ≤ 200) : iO prog 183 192 (ez o c) (ez o (mQ c most).2) [(false, [val (vI most)])] (aJ [(false, [sl aE ((mQ c most).1.map (bI ab))])]) := by
 refine kC (rs := [(false, [sl aE ((mQ c most).1.map (bI ab))])]) func183 rfl (nl rfl) (nl rfl) ?_
 intro g_ h0 w0 Fz0
 have ha := dS c 3
 have ha2 := eA c (n := 3) (by decide)
 have hb1 := dS (au c 3).2 (most + 1)
 have hb2 := eA (au c 3).2 (n := most + 1) (by omega)
 refine vt ?_
 refine be ?_
 refine yG ?_
 refine Cu ?_
 refine sS [0, 1, 4, 5, 5000] [0] ?_
 refine iT ?_
 refine hZ ?_
 refine sS [0, 1, 4, 5, 6, 5000] [0] ?_
 refine rA ?_ (x := cM Cp.ptr)
 refine wh ?_
 refine rA ?_ (x := hO (bx := 0) (qs := [(false, [val _])]) (as_ := [(false, [val _])]) (by decide) wF rfl (by exact (aI (by exact tI) tI)) (by exact (aI (aI rfl (ak ao.nil)) tI)) (by exact (aj.cons (hbo _) (aj.cons (bor_val _) (aj.cons (bor_val _) aj.nil)))) (by exact (gR (aj.cons (bor_val _) aj.nil) gr)) (by exact (xb hbo (by omega))))
 refine tC ?_
 refine sP [0, 1, 4, 5, 6, 7, 5000] [0] ?_
 refine sL [0, 1, 4, 5000] [] (fun k : Nat => (k : Int) ≤ (au (au c 3).2 (most + 1)).1) (fun k : Nat => [(5, RV.slc aE ((cX (au c 3).1 (au (au c 3).2 (most + 1)).2 k).l.map (bI ab))), (6, RV.int (cX (au c 3).1 (au (au c 3).2 (most + 1)).2 k).id), (7, RV.int ((au (au c 3).2 (most + 1)).1 - (k : Int)))]) (fun k : Nat => [(0, (192, ez o (cX (au c 3).1 (au (au c 3).2 (most + 1)).2 k).c))]) (fun k : Nat => ((au (au c 3).2 (most + 1)).1 - (k : Int)).toNat) 0 (by omega) (by exact aI (by exact rfl) (aI (by exact rfl) (aI (by exact bk (by omega)) tI))) (by exact aI (by exact rfl) tI) ?_
 rintro k hk
 have hid := Sk (id := (au c 3).1) (c := (au (au c 3).2 (most + 1)).2) (k := k) (by omega)
 have hln := FW (id := (au c 3).1) (c := (au (au c 3).2 (most + 1)).2) (k := k)
 have hb3 := dS (gA (cX (au c 3).1 (au (au c 3).2 (most + 1)).2 k).c (cX (au c 3).1 (au (au c 3).2 (most + 1)).2 k).id).2 3
 have hb4 := eA (gA (cX (au c 3).1 (au (au c 3).2 (most + 1)).2 k).c (cX (au c 3).1 (au (au c 3).2 (most + 1)).2 k).id).2 (n := 3) (by decide)
 refine zv ?_
 refine sc ?_ ?_ <;> intro hba
 have hlt : (k : Int) < (au (au c 3).2 (most + 1)).1 := by omega
 refine dh ?_
 refine PF ?_
 refine rA ?_ (x := tM)
 refine rA ?_ (x := cM Cp.ptr)
 refine rM ?_
 refine rA ?_ (x := hO (bx := 0) (qs := [(false, [val _])]) (as_ := [(false, [val _])]) (by decide) Rz rfl (by exact (aI (by exact tI) tI)) (by exact (aI (aI rfl (ak ao.nil)) tI)) (by exact (aj.cons (hbo _) (aj.cons (bor_val _) (aj.cons (bor_val _) aj.nil)))) (by exact (gR (aj.cons (bor_val _) aj.nil) gr)) (by exact (Uh hbo)))
 refine tt ?_
 refine sG [0, 1, 4, 5, 6, 7, 5000] [0] ?_
 refine wh ?_
 refine iT ?_
 refine lh ?_
 refine sG [0, 1, 4, 5, 6, 7, 5000] [0] ?_
 refine rM ?_
 refine rA ?_ (x := fI)
 refine rS ?_
 refine nx (k + 1) (by omega) (e := (by exact aI (by exact bG (by simp only [cX, bj]; rfl)) (aI (by exact rfl) (aI (by exact bk (by omega)) tI))))
 have hend : (au (au c 3).2 (most + 1)).1.toNat = k := by omega
 refine er ?_
 refine PF ?_
 refine jQ ?_
 exact ⟨(by show _ = some (192, ez o (cX (au c 3).1 (au (au c 3).2 (most + 1)).2 (au (au c 3).2 (most + 1)).1.toNat).c); rw [hend]; exact rfl), rfl, (aI (by refine bG ?_; show _ = List.map _ (cX _ _ _).l; rw [hend]) tI)⟩
end Go.Proofs.YtmekkgdboplbjaaGreat
