/- What functions of the program compute. No condition. -/
import Derived.Test.YtmekkgdboplbjaaGreatDoorCD0
import Derived.Test.YtmekkgdboplbjaaGreatDoorCF0
set_option linter.all false
namespace Go.Proofs.YtmekkgdboplbjaaGreatDoor
open Go Go.RowKit M PV Tryz
set_option maxRecDepth 10000
attribute [local irreducible] PV.Lcl PV.LclR RV.Lcl
attribute [local irreducible] ak gn
def TU : dL prog 176 = some [(0, 1), (1, 1), (2, 1)] := by kernel_rfl
def TV : dL prog 27 = some [(0, 1), (1, 1)] := by kernel_rfl
def Ls : prog.underlying 3 = some (.int .i64) := by kernel_rfl
def Lt : prog.underlying 5 = some (.int .u8) := by kernel_rfl
def TW {code : List Int}  (hb : code.length ≤ 9223372036854775807) (hb2 : code.length ≤ 4611686018427387904) : yA prog 65 176 [(false, [sl .v (code.map jL)])] (ce .v (dg code hb)) := by
 refine ON (rs := 2) func65 rfl rfl (nl rfl) (bV (ab.cons (bor_sl _) ab.nil) bH) (by exact (ab.cons (bor_sl _) (ab.cons (bor_val _) (ab.cons (bor_val _) ab.nil)))) ?_
 intro h0 w0 Fz0
 refine sj 0 fun hl0 => ?_
 refine jK ?_
 refine pS ?_
 refine rA ?_ (x := lN qi)
 refine kr ?_
 refine ba ?_
 refine oI ?_
 refine sL [0, 2] [] (fun k : Nat => k ≤ code.length ∧ k ≤ 4000) (fun k : Nat => [(3, RV.int (wQ code k)), (4, RV.int (k : Int))]) (fun k : Nat => []) (fun k : Nat => code.length - k) 0 (by omega) (by exact aI (by exact rfl) (aI (by exact rfl) tI)) (by exact tI) ?_
 rintro k ⟨hk, hk4⟩
 refine iv ?_
 refine rA ?_ (x := lN qi)
 refine rA ?_ (x := dZ)
 refine rM ?_
 refine cx 12 (fun ga sga => ?_) (fun ga sga => ?_)
 refine rB ga ?_ (x := sM)
 refine rB ga ?_ (x := dZ)
 refine rA ?_ (x := aK ga)
 refine sc (fun hba => ?_) (fun hba => ?_)
 have hlt : k < code.length := by omega
 have hl4 : k < 4000 := by omega
 refine tz ?_
 refine rM ?_
 refine rA ?_ (x := DP (by decide) (by exact tI) (aJ rfl))
 refine jI ?_
 refine rA ?_ (x := aU (by decide) qi (by exact tI) (by exact rfl) (by exact aV (by omega) rfl) (by exact rfl))
 refine rA ?_ (x := lE [val _] Lp)
 refine rA ?_ (x := yy Lt Ls rfl)
 refine rA ?_ (x := vb (by decide) (by exact tI) (by exact tI))
 refine rA ?_ (x := vb (by decide) (by exact tI) (aJ rfl))
 refine rA ?_ (x := yD (by decide) (by exact tI) (aJ rfl))
 refine rS ?_
 refine tB ?_
 refine nx (k + 1) (by omega) (e := (by exact aI (by exact bA (by rw [wQ, List.getD_eq_getElem?_getD, List.getElem?_eq_getElem hlt]; rfl)) (aI (by exact bA (by omega)) tI)))
 exact Em
 refine qd ?_
 exact Em
def TX {o : Fl} {c : au} (hbo : ∀ es, (sl o es).Bor)  : fa prog 165 176 (ce o c) (ce o (gn c).2) [] (aF [(false, [val (vI (gn c).1)])]) := by
 refine fO (rs := [(false, [val (vI (gn c).1)])]) func165 rfl (nl rfl) (nl rfl) ?_
 intro g_ h0 w0 Fz0
 have hcb := c.hb
 refine lM ?_
 refine sO [(0, _), (2, _), (5000, _)] [(0, (176, [sl o _, val _, val _]))] ?_
 refine lL ?_
 refine la ?_
 refine rA ?_ (x := lF xi)
 refine rA ?_ (x := lD [val _] aw)
 refine rA ?_ (x := DP (by decide) (by exact tI) (aJ rfl))
 refine rA ?_ (x := vb (by decide) (by exact tI) (aJ rfl))
 refine rA ?_ (x := hP (by decide))
 refine rA ?_ (x := lF xi)
 refine vW ?_
 refine sO [(0, _), (2, _), (5000, _)] [(0, (176, [sl o _, val _, val _]))] ?_
 refine oK ?_
 refine dA 3 ?_ (x := lF xi)
 refine dA 7 ?_ (x := lD [val _] aw)
 refine dA 15 ?_ (x := DM (m := 33) rfl (by decide))
 refine pP ?_
 refine dA 96 ?_ (x := lF xi)
 refine dA 224 ?_ (x := lD [val _] aw)
 refine dA 480 ?_ (x := DM (m := 45) rfl (by decide))
 refine dA 1023 ?_ (x := OQ (by decide) (by exact tI) (by exact tI))
 refine dA 2047 ?_ (x := yD (by decide) (by exact tI) (aJ rfl))
 refine dA 4095 ?_ (x := sA)
 refine dO ?_
 refine sP [0, 2, 3, 5000] [0] ?_
 refine oK ?_
 refine dA 3 ?_ (x := lF xh)
 refine dA 7 ?_ (x := lD [val _] aw)
 refine dA 0 ?_ (x := cM Cp.ptr)
 refine dA 16 ?_ (x := hP (by decide))
 refine dA 48 ?_ (x := lF Lj)
 refine dA 112 ?_ (x := lD [sl .v _] BC)
 refine dA 240 ?_ (x := lN qi)
 refine dA 511 ?_ (x := dZ)
 refine sc (fun hba => ?_) (fun hba => ?_)
 have hlt : c.i < c.b.length := by omega
 have hr := Qj hlt
 have hge : c.b[c.i] = c.b.getD c.i 0 := by rw [List.getD_eq_getElem?_getD, List.getElem?_eq_getElem hlt]; rfl
 refine ba ?_
 refine sP [0, 2, 3, 5000] [0] ?_
 refine rc ?_
 refine tj ?_
 refine dA 6 ?_ (x := lF Lj)
 refine dA 14 ?_ (x := lD [sl .v _] BC)
 refine pP ?_
 refine dA 96 ?_ (x := lF xh)
 refine dA 224 ?_ (x := lD [val _] aw)
 refine dA 510 ?_ (x := aU (k := c.i) (by decide) qi (by exact tI) (by rfl) (by exact aV hlt (by rw [hge])) (by exact rfl))
 refine dA 1022 ?_ (x := lE [val _] Lp)
 refine dA 2046 ?_ (x := yy Lt Ls rfl)
 refine dA 4095 ?_ (x := vb (by decide) (by exact tI) (by exact tI))
 refine dA 8191 ?_ (x := yD (by decide) (by exact tI) (aJ rfl))
 refine dA 16383 ?_ (x := sA)
 refine sG [0, 2, 3, 5000] [0] ?_
 refine tx ?_
 refine rA ?_ (x := lF xh)
 refine Ao ?_
 refine rA ?_ (x := lF xh)
 refine vW ?_
 refine sO [(0, _), (2, _), (3, _), (5000, _)] [(0, (176, [sl o _, val _, val _]))] ?_
 refine bi ?_
 exact En
 have hr := Qk (c := c) (by omega)
 refine bc ?_
 refine sS [0, 2, 3, 5000] [0] ?_
 exact En
def jZ {o : Fl} {c : au} (hbo : ∀ es, (sl o es).Bor) {n : Int}  (hn : n ≤ 256) : fa prog 77 176 (ce o c) (ce o (ak c n).2) [(false, [val (vI n)])] (aF [(false, [val (vI (ak c n).1)])]) := by
 refine fO (rs := [(false, [val (vI (ak c n).1)])]) func77 rfl (nl rfl) (nl rfl) ?_
 intro g_ h0 w0 Fz0
 refine lM ?_
 refine JD ?_
 refine ku ?_
 refine rA ?_ (x := ir)
 refine sc (fun hba => ?_) (fun hba => ?_)
 have hr := JW (c := c) hba
 refine sS [0, 1, 4, 5000] [0] ?_
 refine rK ?_
 exact Eo
 have hn0 : 0 < n := by omega
 have hr := AP (c := c) hn0
 refine eA ?_
 refine sS [0, 1, 4, 5000] [0] ?_
 refine rM ?_
 refine rA ?_ (x := ir)
 refine sc (fun hbb => ?_) (fun hbb => ?_)
 refine sS [0, 1, 4, 5000] [0] ?_
 refine rA ?_ (x := cM Cp.ptr)
 refine rA ?_ (x := bR (bx := 0) (qs := []) (as_ := []) (by decide) Sr rfl (by exact tI) (by exact tI) (by exact (ab.cons (hbo _) (ab.cons (bor_val _) (ab.cons (bor_val _) ab.nil)))) (by exact bH) (by exact (TX hbo)))
 refine th ?_
 refine rS ?_
 exact Eo
 omega
def jm {o : Fl} {c : au} (hbo : ∀ es, (sl o es).Bor) {l : List Int}  (hl : 0 < l.length) (hl2 : l.length ≤ 256) : fa prog 152 176 (ce o c) (ce o (aX c l).2) [(false, [sl .v (l.map an)])] (aF [(false, [val (vI (aX c l).1)])]) := by
 refine fO (rs := [(false, [val (vI (aX c l).1)])]) func152 rfl (nl rfl) (nl rfl) ?_
 intro g_ h0 w0 Fz0
 refine sj 1 fun hl1 => ?_
 have hg := dh c (l.length : Int)
 have hg2 := di c (n := (l.length : Int)) (by omega)
 refine JE ?_
 refine As ?_
 refine rA ?_ (x := cM Cp.ptr)
 refine jH ?_
 refine rA ?_ (x := bR (bx := 0) (qs := [(false, [val _])]) (as_ := [(false, [val _])]) (by decide) jV rfl (by exact (aI (by exact tI) tI)) (by exact (aI (aI rfl (aq ao.nil)) tI)) (by exact (ab.cons (hbo _) (ab.cons (bor_val _) (ab.cons (bor_val _) ab.nil)))) (by exact (bV (ab.cons (bor_val _) ab.nil) bH)) (by exact (jZ hbo (by omega))))
 refine rA ?_ (x := aU (k := (ak c (l.length : Int)).1.toNat) (by decide) aW (by exact tI) (by omega) (by exact aV (by omega) rfl) (by exact rfl))
 refine rA ?_ (x := lE [val _] aw)
 refine df ?_
 exact ⟨(by exact rfl), rfl, (aI (by refine bA ?_; show _ = l.getD _ 0; rw [List.getD_eq_getElem?_getD, List.getElem?_eq_getElem (by omega)]; rfl) tI)⟩
def xp {o : Fl} {c : au} (hbo : ∀ es, (sl o es).Bor) {n : Int}  (hn : n ≤ 256) : fa prog 132 176 (ce o c) (ce o (ak c n).2) [(false, [val (vI n)])] (aF [(false, [val (.bool (decide ((ak c n).1 = 0)))])]) := by
 refine fO (rs := [(false, [val (.bool (decide ((ak c n).1 = 0)))])]) func132 rfl (nl rfl) (nl rfl) ?_
 intro g_ h0 w0 Fz0
 refine JE ?_
 refine lL ?_
 refine sW ?_
 refine lb ?_
 refine dc ?_
 exact ⟨(by exact rfl), rfl, (aI (by exact rfl) tI)⟩
def BD {o : Fl} {c : au} (hbo : ∀ es, (sl o es).Bor) {id : Int}  : fa prog 235 176 (ce o c) (ce o (fi c id).2) [(false, [val (vI id)])] (aF [(true, [val (vI (fi c id).1.Id), sl ae ((fi c id).1.Values.map an)])]) := by
 refine fO (rs := [(true, [val (vI (fi c id).1.Id), sl ae ((fi c id).1.Values.map an)])]) func235 rfl (nl rfl) (nl rfl) ?_
 intro g_ h0 w0 Fz0
 have hp3 := Qt c
 refine sR ?_
 refine wa ?_
 refine sO [(0, _), (1, _), (4, _), (5000, _)] [(0, (176, [sl o _, val _, val _])), (4, (27, [val _, sl _ _]))] ?_
 refine ku ?_
 refine rA ?_ (x := dM (qs := [(false, [val _])]) (cs := [val _, sl _ _]) (by decide) iC mG TV (by exact rfl) (by exact (aI (by exact tI) tI)) rfl (by exact rfl))
 refine vO ?_
 refine ba ?_
 refine sO [(0, _), (1, _), (4, _), (5, _), (5000, _)] [(0, _), (4, _), (5, (27, [val _, sl _ _]))] ?_
 refine bi ?_
 refine HC ?_
 refine gA ?_
 refine sS [0, 1, 4, 5, 6, 5000] [0, 4, 5] ?_
 refine de ?_
 refine sP [0, 1, 4, 5, 6, 7, 5000] [0, 4, 5] ?_
 refine sL [0, 1, 4, 5, 6, 5000] [4] (fun k : Nat => k ≤ 3) (fun k : Nat => [(7, RV.int (k : Int))]) (fun k : Nat => [(0, (176, ce o (gQ (aX c [3, 6, 100]).1 (aX c [3, 6, 100]).2 k).2)), (5, (27, [val (vI id), sl ae ((gQ (aX c [3, 6, 100]).1 (aX c [3, 6, 100]).2 k).1.map an)]))]) (fun k : Nat => 3 - k) 0 (by omega) (by exact aI (by exact rfl) tI) (by exact aI (by exact rfl) (aI (by exact rfl) tI)) ?_
 rintro k hk
 have hvl : ((gQ (aX c [3, 6, 100]).1 (aX c [3, 6, 100]).2 k).1).length = k := qk
 refine rh ?_
 refine sc (fun hba => ?_) (fun hba => ?_)
 have hlt : k < 3 := by omega
 refine er ?_
 refine sO [(0, _), (1, _), (4, _), (5, _), (6, _), (7, _), (5000, _)] [(0, (176, [sl o _, val _, val _])), (4, (27, [val _, sl _ _])), (5, (27, [val _, sl _ _]))] ?_
 refine lL ?_
 refine sW ?_
 refine rS ?_
 refine sG [0, 1, 4, 5, 6, 7, 8, 5000] [0, 4, 5] ?_
 refine rA ?_ (x := lF ia)
 refine sX ?_
 refine qT ?_
 refine Jm ?_
 refine sO [(0, _), (1, _), (4, _), (5, _), (6, _), (7, _), (8, _), (5000, _)] [(0, _), (4, _), (5, (27, [val _, sl _ _]))] ?_
 refine rp ?_
 refine nx (k + 1) (by omega) (e := (by exact aI (by exact bA (by omega)) tI)) (f := (by exact aI (by exact rfl) (aI (by simp only [gQ, bb]; exact rfl) tI)))
 have hend : k = 3 := by omega
 refine gM ?_
 refine sO [(0, _), (1, _), (4, _), (5, _), (6, _), (7, _), (5000, _)] [(0, (176, [sl o _, val _, val _])), (4, (27, [val _, sl _ _])), (5, (27, [val _, sl _ _]))] ?_
 refine bi ?_
 refine HH ?_
 refine dc ?_
 exact ⟨(by subst hend; exact rfl), rfl, (bj 4 (bj _ (aI (by exact rfl) (aI (by refine dW ?_; subst hend; exact rfl) (aI gB (aI (fun h => nomatch h) tI))))))⟩
def Lu {o : Fl} {c : au} (hbo : ∀ es, (sl o es).Bor) {most : Int}  (hm : 0 ≤ most ∧ most ≤ 200) : fa prog 167 176 (ce o c) (ce o (eN c most).2) [(false, [val (vI most)])] (aF [(false, [sl aR ((eN c most).1.map (dt ae))])]) := by
 refine fO (rs := [(false, [sl aR ((eN c most).1.map (dt ae))])]) func167 rfl (nl rfl) (nl rfl) ?_
 intro g_ h0 w0 Fz0
 have ha := dh c 3
 have ha2 := di c (n := 3) (by decide)
 have hb1 := dh (ak c 3).2 (most + 1)
 have hb2 := di (ak c 3).2 (n := most + 1) (by omega)
 refine zT ?_
 refine JD ?_
 refine bi ?_
 refine rA ?_ (x := bm (qs := []) (by decide) fQ iC (by decide) rfl rfl rfl rfl rfl (by exact nl rfl) (by exact tI) rfl)
 refine rA ?_ (x := tA)
 refine sS [0, 1, 4, 5, 5000] [0] ?_
 refine jG ?_
 refine gA ?_
 refine sS [0, 1, 4, 5, 6, 5000] [0] ?_
 refine rA ?_ (x := cM Cp.ptr)
 refine rM ?_
 refine rA ?_ (x := iX)
 refine rA ?_ (x := bR (bx := 0) (qs := [(false, [val _])]) (as_ := [(false, [val _])]) (by decide) jV rfl (by exact (aI (by exact tI) tI)) (by exact (aI (aI rfl (aq ao.nil)) tI)) (by exact (ab.cons (hbo _) (ab.cons (bor_val _) (ab.cons (bor_val _) ab.nil)))) (by exact (bV (ab.cons (bor_val _) ab.nil) bH)) (by exact (jZ hbo (by omega))))
 refine rS ?_
 refine fM ?_
 refine sP [0, 1, 4, 5, 6, 7, 5000] [0] ?_
 refine sL [0, 1, 4, 5000] [] (fun k : Nat => (k : Int) ≤ (ak (ak c 3).2 (most + 1)).1) (fun k : Nat => [(5, RV.slc aR ((cr (ak c 3).1 (ak (ak c 3).2 (most + 1)).2 k).l.map (dt ae))), (6, RV.int (cr (ak c 3).1 (ak (ak c 3).2 (most + 1)).2 k).id), (7, RV.int ((ak (ak c 3).2 (most + 1)).1 - (k : Int)))]) (fun k : Nat => [(0, (176, ce o (cr (ak c 3).1 (ak (ak c 3).2 (most + 1)).2 k).c))]) (fun k : Nat => ((ak (ak c 3).2 (most + 1)).1 - (k : Int)).toNat) 0 (by omega) (by exact aI (by exact rfl) (aI (by exact rfl) (aI (by exact bA (by omega)) tI))) (by exact aI (by exact rfl) tI) ?_
 rintro k hk
 have hid := JY (id := (ak c 3).1) (c := (ak (ak c 3).2 (most + 1)).2) (k := k) (by omega)
 have hln := AR (id := (ak c 3).1) (c := (ak (ak c 3).2 (most + 1)).2) (k := k)
 have hb3 := dh (fi (cr (ak c 3).1 (ak (ak c 3).2 (most + 1)).2 k).c (cr (ak c 3).1 (ak (ak c 3).2 (most + 1)).2 k).id).2 3
 have hb4 := di (fi (cr (ak c 3).1 (ak (ak c 3).2 (most + 1)).2 k).c (cr (ak c 3).1 (ak (ak c 3).2 (most + 1)).2 k).id).2 (n := 3) (by decide)
 refine ri ?_
 refine sc (fun hba => ?_) (fun hba => ?_)
 have hlt : (k : Int) < (ak (ak c 3).2 (most + 1)).1 := by omega
 refine er ?_
 refine Jw ?_
 refine rA ?_ (x := tM)
 refine rA ?_ (x := cM Cp.ptr)
 refine rM ?_
 refine rA ?_ (x := bR (bx := 0) (qs := [(false, [val _])]) (as_ := [(false, [val _])]) (by decide) Bp rfl (by exact (aI (by exact tI) tI)) (by exact (aI (aI rfl (aq ao.nil)) tI)) (by exact (ab.cons (hbo _) (ab.cons (bor_val _) (ab.cons (bor_val _) ab.nil)))) (by exact (bV (ab.cons (bor_val _) ab.nil) bH)) (by exact (BD hbo)))
 refine zr ?_
 refine rA ?_ (x := tA)
 refine sG [0, 1, 4, 5, 6, 7, 5000] [0] ?_
 refine rM ?_
 refine rA ?_ (x := iX)
 refine jG ?_
 refine kr ?_
 refine sG [0, 1, 4, 5, 6, 7, 5000] [0] ?_
 refine rM ?_
 refine rm ?_
 refine nx (k + 1) (by omega) (e := (by exact aI (by exact bI (by simp only [cr, bb]; rfl)) (aI (by exact rfl) (aI (by exact bA (by omega)) tI))))
 have hend : (ak (ak c 3).2 (most + 1)).1.toNat = k := by omega
 refine gM ?_
 refine Jw ?_
 refine gz ?_
 exact ⟨(by show _ = some (176, ce o (cr (ak c 3).1 (ak (ak c 3).2 (most + 1)).2 (ak (ak c 3).2 (most + 1)).1.toNat).c); rw [hend]; exact rfl), rfl, (aI (by refine bI ?_; show _ = List.map _ (cr _ _ _).l; rw [hend]) tI)⟩
def TY {c : au}  : fa prog 168 176 (ce .v c) (ce .v (iD c).2) [] (aF [(true, [val (vI (iD c).1.Id), sl ae ((iD c).1.Values.map an)])]) := by
 refine fO (rs := [(true, [val (vI (iD c).1.Id), sl ae ((iD c).1.Values.map an)])]) func168 rfl (nl rfl) (nl rfl) ?_
 intro g_ h0 w0 Fz0
 refine uZ (fun L => [(0, RV.ptr 0 0), (5000, RV.phi 0 g_)]) (fun L => [(0, (176, [sl (.lo L) (c.b.map jL), val (vI (c.i : Int)), val (vI c.h)]))]) (fun L => by exact (it.cons hO.ptr (it.cons hO.phi tI))) (fun L => by exact (kY.cons (aj.cons (bn (fun _ => nl rfl) (fun _ => (aj.cons aC aj.nil))) (aj.cons aC (aj.cons aC aj.nil))) (ab.cons (bor_lo _ _) (ab.cons (bor_val _) (ab.cons (bor_val _) ab.nil))) tI)) fun Bl w0 Fz0 => ?_
 have hv3 : (gR c).1.Values.length = 3 := qk
 have hv4 : (fi (ak c 9).2 (ak c 9).1).1.Values.length = 3 := qk
 have hv0 : 0 < (gR c).1.Values.length := by omega
 refine sR ?_
 refine wa ?_
 refine sO [(0, _), (2, _), (5000, _)] [(0, (176, [sl (.lo _) _, val _, val _])), (2, (27, [val _, sl _ _]))] ?_
 refine lL ?_
 refine mw ?_
 refine rA ?_ (x := bR (bx := 0) (qs := [(false, [val _])]) (as_ := [(false, [val _])]) (by decide) Bp rfl (by exact (aI (by exact tI) tI)) (by exact (aI (aI rfl (aq ao.nil)) tI)) (by exact (ab.cons (bor_lo _ _) (ab.cons (bor_val _) (ab.cons (bor_val _) ab.nil)))) (by exact (bV (ab.cons (bor_val _) ab.nil) bH)) (by exact (BD (fun es => bor_lo _ es))))
 refine vO ?_
 refine dO ?_
 refine sO [(0, _), (2, _), (3, _), (5000, _)] [(0, _), (2, _), (3, (27, [val _, sl _ _]))] ?_
 refine bi ?_
 refine mw ?_
 refine fM ?_
 refine pT ?_
 refine sc (fun hba => ?_) (fun hba => ?_)
 have hr := Ql (c := c) hba
 refine Ap ?_
 refine rA ?_ (x := bR (bx := 0) (qs := [(false, [sl _ _])]) (as_ := [(false, [sl .v _])]) (by decide) jh rfl (by exact (aI (by exact tI) tI)) (by exact (aI (aI rfl (aA ao.nil)) tI)) (by exact (ab.cons (bor_lo _ _) (ab.cons (bor_val _) (ab.cons (bor_val _) ab.nil)))) (by exact (bV (ab.cons (bor_sl _) ab.nil) bH)) (by exact (jm (l := [-1, 999, 1000]) (fun es => bor_lo _ es) (by decide) (by decide))))
 refine rA ?_ (x := lF jO)
 refine rA ?_ (x := bf (ag := false) (vs := [val _]) aw (by exact tI) (by exact rfl) (by exact nl rfl))
 exact yJ
 have h0_ := hba
 refine pT ?_
 refine sc (fun hbb => ?_) (fun hbb => ?_)
 have hr := Qm (c := c) h0_ hbb
 refine sP [0, 2, 3, 9, 5000] [0, 2, 3] ?_
 refine jC (d := 3) (t := 27) (D := 900) (G := 2900) (E := 3) (e := 1) (L := Bl) (A := [val _]) (B := []) (es := ((gR c).1.Values).map an) (by exact rfl) (iq hv0) (by exact rfl) (by exact rfl) rfl (by exact rfl) (fun x hx => hx) (by exact lq) (by exact lq) (by exact lc) (by exact ar.nil) (ar.map fun x => (ar.cons lcl_val ar.nil)) fun uu900 cp900 jk900 hlD900 hcp900 hjk900 => ?_
 rw [am] at hlD900 hcp900 hjk900
 refine cK (d := 900) (by exact rfl) (hI (k := 0) hv0) ?_
 have hA900 := hJ (f := an) (e := 1) (xs := (gR c).1.Values) (k := 0) (fun _ => rfl) (Nat.le_of_lt hv0)
 refine sO [(0, _), (2, _), (3, _), (9, _), (2900, _), (5000, _)] [(0, _), (2, _), (3, (27, [val _, val _])), (900, (3, _ ++ ([val _] ++ _)))] ?_
 refine cv cd ?_
 refine dA 0 ?_ (x := lF ia)
 refine dA 1 ?_ (x := lD [val _] bz)
 refine zz ?_
 refine dA 12 ?_ (x := bR (bx := 0) (qs := [(false, [sl _ _])]) (as_ := [(false, [sl .v _])]) (by decide) jh rfl (by exact (aI (by exact tI) tI)) (by exact (aI (aI rfl (aA ao.nil)) tI)) (by exact (ab.cons (bor_lo _ _) (ab.cons (bor_val _) (ab.cons (bor_val _) ab.nil)))) (by exact (bV (ab.cons (bor_sl _) ab.nil) bH)) (by exact (jm (l := [-1, 99, 100]) (fun es => bor_lo _ es) (by decide) (by decide))))
 refine HU ?_
 refine cK (d := 900) (by exact rfl) (kq ((aX (eO c).2 [-1, 99, 100]).1) hv0 (by exact rfl)) ?_
 refine lI (d := 3) (D := 900) (G := 2900) (e := 1) (A := [val _]) (B := []) (es := (((gR c).1.Values).set 0 ((aX (eO c).2 [-1, 99, 100]).1)).map an) (by exact rfl) (by exact rfl) (by exact rfl) rfl (by rw [am, List.length_set, am]) (by intro c hc; obtain ⟨y, _, rfl⟩ := List.mem_map.1 hc; exact rfl) (by rw [am]; exact hjk900) ?_
 exact yJ
 have h1_ := hbb
 refine pT ?_
 refine sc (fun hbc => ?_) (fun hbc => ?_)
 have hr := Qn (c := c) h0_ h1_ hbc
 refine sG [0, 2, 3, 9, 5000] [0, 2, 3] ?_
 refine rA ?_ (x := lF ia)
 refine rA ?_ (x := dH (ms := [sl _ _]) (qs := [sl .v _]) (by decide) bz (fun _ => rfl) (by exact nl rfl) (by exact rfl) (by exact (aA ao.nil)) (by exact (ab.cons (bor_sl _) ab.nil)))
 refine rA ?_ (x := bm (qs := [(false, [val _])]) (by decide) aW bX (by decide) rfl rfl rfl rfl rfl (by exact nl rfl) (by exact (aI (aJ rfl) tI)) rfl)
 refine rA ?_ (x := dy (by decide) aW bX rfl rfl (by decide) rfl (by simp only [am, aD, List.length_cons, List.length_nil]; omega) (by simp only [am, aD, List.length_cons, List.length_nil]; omega))
 refine Jm ?_
 exact yJ
 have hr := Qo (c := c) h0_ h1_ hbc
 refine bc ?_
 refine sS [0, 2, 3, 9, 5000] [0, 2, 3] ?_
 exact Ep
def TZ {c : au}  : fa prog 79 176 (ce .v c) (ce .v (rE c).2) [] (aF [(false, [sl aR ((rE c).1.map (dt ae))])]) := by
 refine fO (rs := [(false, [sl aR ((rE c).1.map (dt ae))])]) func79 rfl (nl rfl) (nl rfl) ?_
 intro g_ h0 w0 Fz0
 have hw := JZ c (most := 8) (by decide)
 have hwl : (eN c 8).1.length ≤ gm (eN c 8).1 := Nat.le_add_right _ _
 refine zT ?_
 refine sT [0, 2, 5000] [0] ?_
 refine rA ?_ (x := cM Cp.ptr)
 refine rA ?_ (x := bR (bx := 0) (qs := [(false, [val _])]) (as_ := [(false, [val _])]) (by decide) KV rfl (by exact (aI (aJ rfl) tI)) (by exact (aI (aI rfl (aq ao.nil)) tI)) (by exact (ab.cons (bor_sl _) (ab.cons (bor_val _) (ab.cons (bor_val _) ab.nil)))) (by exact (bV (ab.cons (bor_val _) ab.nil) bH)) (by exact (Lu (fun es => bor_sl es) (by omega))))
 refine jJ ?_
 refine sS [0, 2, 3, 5000] [0] ?_
 refine rA ?_ (x := cM Cp.ptr)
 refine rA ?_ (x := bR (bx := 0) (qs := [(false, [val _])]) (as_ := [(false, [val _])]) (by decide) xe rfl (by exact (aI (aJ rfl) tI)) (by exact (aI (aI rfl (aq ao.nil)) tI)) (by exact (ab.cons (bor_sl _) (ab.cons (bor_val _) (ab.cons (bor_val _) ab.nil)))) (by exact (bV (ab.cons (bor_val _) ab.nil) bH)) (by exact (xp (fun es => bor_sl es) (by omega))))
 refine sc (fun hba => ?_) (fun hba => ?_)
 have hr := Qp (c := c) (by simpa using hba)
 refine sG [0, 2, 3, 5000] [0] ?_
 refine rA ?_ (x := tM)
 refine rA ?_ (x := cM Cp.ptr)
 refine rA ?_ (x := bR (bx := 0) (qs := []) (as_ := []) (by decide) Ss rfl (by exact tI) (by exact tI) (by exact (ab.cons (bor_sl _) (ab.cons (bor_val _) (ab.cons (bor_val _) ab.nil)))) (by exact bH) (by exact TY))
 refine zr ?_
 refine rA ?_ (x := tA)
 exact Er
 have hr := Qq (c := c) (by simpa using hba)
 refine bc ?_
 exact Er
end Go.Proofs.YtmekkgdboplbjaaGreatDoor
