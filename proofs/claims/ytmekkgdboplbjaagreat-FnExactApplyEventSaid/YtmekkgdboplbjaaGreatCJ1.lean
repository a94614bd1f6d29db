/- What functions of the program compute. No condition. -/
import Derived.Test.YtmekkgdboplbjaaGreatCB1
import Derived.Test.YtmekkgdboplbjaaGreatCC1
import Derived.Test.YtmekkgdboplbjaaGreatCD1
import Derived.Test.YtmekkgdboplbjaaGreatCE1
import Derived.Test.YtmekkgdboplbjaaGreatCG1
import Derived.Test.YtmekkgdboplbjaaGreatCI1
set_option linter.all false
namespace Go.Proofs.YtmekkgdboplbjaaGreat
open Go Go.RowKit M PV Tryz
set_option maxRecDepth 10000
attribute [local irreducible] PV.Lcl PV.LclR RV.Lcl
set_option maxHeartbeats 8000000
def V3 {p1 p2 p5 p6 p7 p8 p9 p11 p12 p13 p14 p16 p17 p18 : Fl} {e : aL} {n : Int}  (hb : bp e ≤ 68718000000) : aC prog 12 [(true, [sl .v (e.Store.Wr.map (aD p1 p2)), val (vI e.Store.Now), val (vI e.Ww), sl .v (e.Order.map ak), sl .v (e.Ws.map (aO p5 p6 p7 p8 p9)), sl .v (e.Done.map (aZ p11 p12 p13 p14)), sl .v (e.WE.map (a7 p16 p17 p18)), val (vI e.Steps)]), (false, [val (vI n)])] (az [(true, [sl bo ((fX e n).Store.Wr.map (aD aS aa)), val (vI (fX e n).Store.Now), val (vI (fX e n).Ww), sl aa ((fX e n).Order.map ak), sl bS ((fX e n).Ws.map (aO ay aa aa aB aa)), sl bM ((fX e n).Done.map (aZ ay aa aB aa)), sl bP ((fX e n).WE.map (a7 aa aa aa)), val (vI (fX e n).Steps)])]) := by
 refine sF func12 fun h0 w0 Fz0 => ?_
 refine sn 0 0 fun hl0_0 => ?_
 refine sn 0 3 fun hl0_3 => ?_
 refine sn 0 4 fun hl0_4 => ?_
 refine sn 0 5 fun hl0_5 => ?_
 refine sn 0 6 fun hl0_6 => ?_
 have hbu := hb
 simp only [bp, c6, dK, dJ] at hbu
 refine qK ?_
 refine sT [1, 2, 4] [2, 4] ?_
 refine yw ?_
 refine rl ?_
 refine Ij ?_
 refine cz ?_
 refine Gp ?_
 rintro k hk
 have hrw := w5 e k
 have hrl := BM n
 refine d6 ?_
 refine iv ?_
 refine rM ?_
 refine cx 12 (fun ga sga => ?_) (fun ga sga => ?_)
 refine vv ?_
 refine rA ?_ (x := aR ga)
 refine sc (fun hba => ?_) (fun hba => ?_)
 have hlt : k < kr n := by unfold kr; first | omega | (simp_all; omega)
 refine bB ?_
 refine sH [1, 2, 4, 5, 6] [2, 4, 5] ?_
 refine rA ?_ (x := lD [sl .v _, val _, val _, sl .v _, sl .v _, sl .v _, sl .v _, val _] bZ)
 refine rA ?_ (x := cL [(true, [sl _ _, val _, val _, sl _ _, sl _ _, sl _ _, sl _ _, val _])] [(true, [sl .v _, val _, val _, sl .v _, sl .v _, sl .v _, sl .v _, val _])] Sc (hs := by exact (VP (e := iI e k) (by omega))))
 refine rA ?_ (x := tM)
 refine HI ?_
 refine sO [(1, _), (2, _), (4, _), (5, _), (6, _)] [(2, _), (4, _), (5, (32, [sl _ _, val _, val _, sl _ _, sl _ _, sl _ _, sl _ _, val _]))] ?_
 exact F7
 exact yk
 exact F8
def V4 {p1 p2 p5 p6 p7 p8 p9 p11 p12 p13 p14 p16 p17 p18 : Fl} {e : aL} {n : Int}  (hb : bp e ≤ 68718000000) : aC prog 90 [(true, [sl .v (e.Store.Wr.map (aD p1 p2)), val (vI e.Store.Now), val (vI e.Ww), sl .v (e.Order.map ak), sl .v (e.Ws.map (aO p5 p6 p7 p8 p9)), sl .v (e.Done.map (aZ p11 p12 p13 p14)), sl .v (e.WE.map (a7 p16 p17 p18)), val (vI e.Steps)]), (false, [val (vI n)])] (az [(true, [sl bo ((fX e n).Store.Wr.map (aD aS aa)), val (vI (fX e n).Store.Now), val (vI (fX e n).Ww), sl aa ((fX e n).Order.map ak), sl bS ((fX e n).Ws.map (aO ay aa aa aB aa)), sl bM ((fX e n).Done.map (aZ ay aa aB aa)), sl bP ((fX e n).WE.map (a7 aa aa aa)), val (vI (fX e n).Steps)])]) := by
 refine sF func90 fun h0 w0 Fz0 => ?_
 refine sn 0 0 fun hl0_0 => ?_
 refine sn 0 3 fun hl0_3 => ?_
 refine sn 0 4 fun hl0_4 => ?_
 refine sn 0 5 fun hl0_5 => ?_
 refine sn 0 6 fun hl0_6 => ?_
 have hbu := hb
 simp only [bp, c6, dK, dJ] at hbu
 refine qK ?_
 refine sT [1, 2, 4] [2, 4] ?_
 refine uF ?_
 refine rl ?_
 refine Ij ?_
 refine cz ?_
 refine Gp ?_
 rintro k hk
 have hrw := w5 e k
 have hrl := BM n
 refine d6 ?_
 refine iv ?_
 refine rM ?_
 refine cx 14 (fun ga sga => ?_) (fun ga sga => ?_)
 refine vv ?_
 refine rA ?_ (x := aR ga)
 refine sc (fun hba => ?_) (fun hba => ?_)
 have hlt : k < kr n := by unfold kr; first | omega | (simp_all; omega)
 refine bB ?_
 refine sT [1, 2, 4, 5, 6] [2, 4, 5] ?_
 refine rA ?_ (x := lD [sl .v _, val _, val _, sl .v _, sl .v _, sl .v _, sl .v _, val _] bZ)
 refine rA ?_ (x := cL [(true, [sl _ _, val _, val _, sl _ _, sl _ _, sl _ _, sl _ _, val _])] [(true, [sl .v _, val _, val _, sl .v _, sl .v _, sl .v _, sl .v _, val _])] Sd (hs := by exact (VV (e := iI e k) (by omega))))
 refine rA ?_ (x := tM)
 refine uB ?_
 refine mp ?_
 refine rS ?_
 refine sO [(1, _), (2, _), (4, _), (5, _), (6, _), (7, _), (8, _)] [(2, _), (4, _), (5, _), (7, (32, [sl _ _, val _, val _, sl _ _, sl _ _, sl _ _, sl _ _, val _]))] ?_
 refine rg ?_
 refine sO [(1, _), (2, _), (4, _), (5, _), (6, _), (7, _), (8, _)] [(2, _), (4, _), (5, (32, [sl _ _, val _, val _, sl _ _, sl _ _, sl _ _, sl _ _, val _])), (7, (32, [sl _ _, val _, val _, sl _ _, sl _ _, sl _ _, sl _ _, val _]))] ?_
 exact F7
 exact yk
 exact F8
def V5 {p1 p2 p5 p6 p7 p8 p9 p11 p12 p13 p14 p16 p17 p18 : Fl} {e : aL} {u : Wv}  (hb : bp e ≤ 68718000000) (hbu0 : gC u ≤ 68718000000) : aC prog 85 [(true, [sl .v (e.Store.Wr.map (aD p1 p2)), val (vI e.Store.Now), val (vI e.Ww), sl .v (e.Order.map ak), sl .v (e.Ws.map (aO p5 p6 p7 p8 p9)), sl .v (e.Done.map (aZ p11 p12 p13 p14)), sl .v (e.WE.map (a7 p16 p17 p18)), val (vI e.Steps)]), (true, [val (vI u.Kind), val (vI u.Row.Id), sl .v (u.Row.Values.map ak), val (vI u.Field), val (vI u.Value)])] (az [(true, [sl bo ((cC e u).1.Store.Wr.map (aD aS aa)), val (vI (cC e u).1.Store.Now), val (vI (cC e u).1.Ww), sl aa ((cC e u).1.Order.map ak), sl bS ((cC e u).1.Ws.map (aO ay aa aa aB aa)), sl bM ((cC e u).1.Done.map (aZ ay aa aB aa)), sl bP ((cC e u).1.WE.map (a7 aa aa aa)), val (vI (cC e u).1.Steps)]), (false, [val (.bool (cC e u).2)])]) := by
 refine j3 (largs := fun L => [(true, [sl (.lo L) (e.Store.Wr.map (aD (.lo L) (.lo L))), val (vI e.Store.Now), val (vI e.Ww), sl (.lo L) (e.Order.map ak), sl (.lo L) (e.Ws.map (aO (.lo L) (.lo L) (.lo L) (.lo L) (.lo L))), sl (.lo L) (e.Done.map (aZ (.lo L) (.lo L) (.lo L) (.lo L))), sl (.lo L) (e.WE.map (a7 (.lo L) (.lo L) (.lo L))), val (vI e.Steps)]), (true, [val (vI u.Kind), val (vI u.Row.Id), sl (.lo L) (u.Row.Values.map ak), val (vI u.Field), val (vI u.Value)])]) (rs := [(true, [sl bo ((cC e u).1.Store.Wr.map (aD aS aa)), val (vI (cC e u).1.Store.Now), val (vI (cC e u).1.Ww), sl aa ((cC e u).1.Order.map ak), sl bS ((cC e u).1.Ws.map (aO ay aa aa aB aa)), sl bM ((cC e u).1.Done.map (aZ ay aa aB aa)), sl bP ((cC e u).1.WE.map (a7 aa aa aa)), val (vI (cC e u).1.Steps)]), (false, [val (.bool (cC e u).2)])]) func85 rfl (nl rfl) (fun L => by exact (aI (aI rfl (ab.cons (aM (fun _ => nl rfl) (fun _ => (ab.cons (aM (fun _ => nl rfl) (fun _ => (ab.cons ap (ab.cons (aM (fun _ => nl rfl) (fun _ => (ab.cons ap ab.nil))) (ab.cons ap (ab.cons ap ab.nil)))))) ab.nil))) (ab.cons ap (ab.cons ap (ab.cons (aM (fun _ => nl rfl) (fun _ => (ab.cons ap ab.nil))) (ab.cons (aM (fun _ => nl rfl) (fun _ => (ab.cons ap (ab.cons ap (ab.cons (aM (fun _ => nl rfl) (fun _ => (ab.cons ap (ab.cons ap (ab.cons ap ab.nil))))) (ab.cons (aM (fun _ => nl rfl) (fun _ => (ab.cons ap ab.nil))) (ab.cons ap (ab.cons (aM (fun _ => nl rfl) (fun _ => (ab.cons ap ab.nil))) (ab.cons ap (ab.cons ap (ab.cons ap (ab.cons (aM (fun _ => nl rfl) (fun _ => (ab.cons ap (ab.cons (aM (fun _ => nl rfl) (fun _ => (ab.cons ap ab.nil))) ab.nil)))) ab.nil)))))))))))) (ab.cons (aM (fun _ => nl rfl) (fun _ => (ab.cons ap (ab.cons ap (ab.cons (aM (fun _ => nl rfl) (fun _ => (ab.cons ap (ab.cons ap (ab.cons ap ab.nil))))) (ab.cons (aM (fun _ => nl rfl) (fun _ => (ab.cons ap ab.nil))) (ab.cons ap (ab.cons ap (ab.cons (aM (fun _ => nl rfl) (fun _ => (ab.cons ap (ab.cons (aM (fun _ => nl rfl) (fun _ => (ab.cons ap ab.nil))) ab.nil)))) ab.nil))))))))) (ab.cons (aM (fun _ => nl rfl) (fun _ => (ab.cons ap (ab.cons ap (ab.cons (aM (fun _ => nl rfl) (fun _ => (ab.cons ap ab.nil))) (ab.cons (aM (fun _ => nl rfl) (fun _ => (ab.cons ap ab.nil))) (ab.cons (aM (fun _ => nl rfl) (fun _ => (ab.cons ap ab.nil))) ab.nil))))))) (ab.cons ap ab.nil))))))))) (aI (aI rfl (ab.cons ap (ab.cons ap (ab.cons (aM (fun _ => nl rfl) (fun _ => (ab.cons ap ab.nil))) (ab.cons ap (ab.cons ap ab.nil)))))) tI))) (fun L => by exact lq) ?_
 intro w0 Fz0
 refine sn 0 0 fun hl0_0 => ?_
 refine sn 0 3 fun hl0_3 => ?_
 refine sn 0 4 fun hl0_4 => ?_
 refine sn 0 5 fun hl0_5 => ?_
 refine sn 0 6 fun hl0_6 => ?_
 refine sn 1 2 fun hl1_2 => ?_
 have hbu := hb
 simp only [bp, c6, dK, dJ] at hbu
 have haw := BN e.Store u
 have hww := BO e u
 refine IH ?_
 refine GO ?_
 refine yD ?_
 refine mp ?_
 refine aP ?_
 refine H0 ?_
 refine zC ?_
 refine rA ?_ (x := lD [val _, val _, sl (.lo _) _, val _, val _] kg)
 refine rA ?_ (x := cL [(true, [sl (.lo _) _, val _]), (true, [val _, val _, sl (.lo _) _, val _, val _])] [(true, [sl .v _, val _]), (true, [val _, val _, sl .v _, val _, val _])] RK (hs := by exact (VK (by omega) (by omega))))
 refine rA ?_ (x := tM)
 refine uE ?_
 refine mu ?_
 refine fA ?_
 refine Iv ?_
 refine mr ?_
 refine yE ?_
 refine cx 21 (fun ga sga => ?_) (fun ga sga => ?_)
 refine mH ?_
 exact yl
 refine rB ga ?_ (x := sM)
 refine ly ?_
 refine sc (fun hba => ?_) (fun hba => ?_)
 exact yl
 have hok : (bh e && (dq e.Store u).2) = true := by first | (simp_all; done) | (cases h1_ : bh e <;> cases h2_ : (dq e.Store u).2 <;> simp_all)
 refine bl ?_
 refine GI ?_
 refine sx ?_
 refine aP ?_
 refine Ho ?_
 refine wA ?_ (x := cl (ms := [sl _ _, val _, val _, sl _ _, sl _ _, sl _ _, sl _ _, val _]) (qs := [any, val _, val _, any, any, any, any, val _]) (by decide) bZ (fun h => nomatch h) (by exact nl rfl) (by exact rfl) (by exact (am.cons PV.to_any (an (an (am.cons PV.to_any (am.cons PV.to_any (am.cons PV.to_any (am.cons PV.to_any (an am.nil))))))))) (by exact lq))
 refine wO [(2, _), (3, _), (4, _), (5, _), (6, _), (7, _), (8, _), (28, _)] [(2, _), (3, _), (4, _), (6, (32, [any, val _, val _, any, any, any, any, val _])), (7, _)] ?_
 refine xG (L := (Lw w0.heap.size)) (qs := [(true, [sl _ _, val _, val _, sl _ _, sl _ _, sl _ _, sl _ _, val _])]) (as_ := [(true, [sl _ _, val _, val _, sl _ _, sl _ _, sl _ _, sl _ _, val _])]) (by decide) AY (by exact ⟨rfl, ⟨⟩⟩) (by exact (aI (by exact tI) tI)) (by decide) (by exact lq) (by exact (BU (e := qd e (dq e.Store u).1) (by omega))) (fun x hx => hx) (by exact lq) (by exact lq) ?_
 refine wA ?_ (x := bd (ag := true) (vs := [sl _ _, val _, val _, sl _ _, sl _ _, sl _ _, sl _ _, val _]) bZ (by exact tI) (by exact rfl) (by exact nl rfl))
 refine wA ?_ (x := kA)
 refine dg ?_
 exact Ga
def V6 {p1 p2 p5 p6 p7 p8 p9 p11 p12 p13 p14 p16 p17 p18 : Fl} {e : aL} {u : Wv}  (hb : bp e ≤ 68718000000) (hbu0 : gC u ≤ 68718000000) : aC prog 89 [(true, [sl .v (e.Store.Wr.map (aD p1 p2)), val (vI e.Store.Now), val (vI e.Ww), sl .v (e.Order.map ak), sl .v (e.Ws.map (aO p5 p6 p7 p8 p9)), sl .v (e.Done.map (aZ p11 p12 p13 p14)), sl .v (e.WE.map (a7 p16 p17 p18)), val (vI e.Steps)]), (true, [val (vI u.Kind), val (vI u.Row.Id), sl .v (u.Row.Values.map ak), val (vI u.Field), val (vI u.Value)])] (az [(true, [sl bo ((cC e u).1.Store.Wr.map (aD aS aa)), val (vI (cC e u).1.Store.Now), val (vI (cC e u).1.Ww), sl aa ((cC e u).1.Order.map ak), sl bS ((cC e u).1.Ws.map (aO ay aa aa aB aa)), sl bM ((cC e u).1.Done.map (aZ ay aa aB aa)), sl bP ((cC e u).1.WE.map (a7 aa aa aa)), val (vI (cC e u).1.Steps)]), (false, [val (.bool (cC e u).2)])]) := by
 refine j3 (largs := fun L => [(true, [sl (.lo L) (e.Store.Wr.map (aD (.lo L) (.lo L))), val (vI e.Store.Now), val (vI e.Ww), sl (.lo L) (e.Order.map ak), sl (.lo L) (e.Ws.map (aO (.lo L) (.lo L) (.lo L) (.lo L) (.lo L))), sl (.lo L) (e.Done.map (aZ (.lo L) (.lo L) (.lo L) (.lo L))), sl (.lo L) (e.WE.map (a7 (.lo L) (.lo L) (.lo L))), val (vI e.Steps)]), (true, [val (vI u.Kind), val (vI u.Row.Id), sl (.lo L) (u.Row.Values.map ak), val (vI u.Field), val (vI u.Value)])]) (rs := [(true, [sl bo ((cC e u).1.Store.Wr.map (aD aS aa)), val (vI (cC e u).1.Store.Now), val (vI (cC e u).1.Ww), sl aa ((cC e u).1.Order.map ak), sl bS ((cC e u).1.Ws.map (aO ay aa aa aB aa)), sl bM ((cC e u).1.Done.map (aZ ay aa aB aa)), sl bP ((cC e u).1.WE.map (a7 aa aa aa)), val (vI (cC e u).1.Steps)]), (false, [val (.bool (cC e u).2)])]) func89 rfl (nl rfl) (fun L => by exact (aI (aI rfl (ab.cons (aM (fun _ => nl rfl) (fun _ => (ab.cons (aM (fun _ => nl rfl) (fun _ => (ab.cons ap (ab.cons (aM (fun _ => nl rfl) (fun _ => (ab.cons ap ab.nil))) (ab.cons ap (ab.cons ap ab.nil)))))) ab.nil))) (ab.cons ap (ab.cons ap (ab.cons (aM (fun _ => nl rfl) (fun _ => (ab.cons ap ab.nil))) (ab.cons (aM (fun _ => nl rfl) (fun _ => (ab.cons ap (ab.cons ap (ab.cons (aM (fun _ => nl rfl) (fun _ => (ab.cons ap (ab.cons ap (ab.cons ap ab.nil))))) (ab.cons (aM (fun _ => nl rfl) (fun _ => (ab.cons ap ab.nil))) (ab.cons ap (ab.cons (aM (fun _ => nl rfl) (fun _ => (ab.cons ap ab.nil))) (ab.cons ap (ab.cons ap (ab.cons ap (ab.cons (aM (fun _ => nl rfl) (fun _ => (ab.cons ap (ab.cons (aM (fun _ => nl rfl) (fun _ => (ab.cons ap ab.nil))) ab.nil)))) ab.nil)))))))))))) (ab.cons (aM (fun _ => nl rfl) (fun _ => (ab.cons ap (ab.cons ap (ab.cons (aM (fun _ => nl rfl) (fun _ => (ab.cons ap (ab.cons ap (ab.cons ap ab.nil))))) (ab.cons (aM (fun _ => nl rfl) (fun _ => (ab.cons ap ab.nil))) (ab.cons ap (ab.cons ap (ab.cons (aM (fun _ => nl rfl) (fun _ => (ab.cons ap (ab.cons (aM (fun _ => nl rfl) (fun _ => (ab.cons ap ab.nil))) ab.nil)))) ab.nil))))))))) (ab.cons (aM (fun _ => nl rfl) (fun _ => (ab.cons ap (ab.cons ap (ab.cons (aM (fun _ => nl rfl) (fun _ => (ab.cons ap ab.nil))) (ab.cons (aM (fun _ => nl rfl) (fun _ => (ab.cons ap ab.nil))) (ab.cons (aM (fun _ => nl rfl) (fun _ => (ab.cons ap ab.nil))) ab.nil))))))) (ab.cons ap ab.nil))))))))) (aI (aI rfl (ab.cons ap (ab.cons ap (ab.cons (aM (fun _ => nl rfl) (fun _ => (ab.cons ap ab.nil))) (ab.cons ap (ab.cons ap ab.nil)))))) tI))) (fun L => by exact lq) ?_
 intro w0 Fz0
 refine sn 0 0 fun hl0_0 => ?_
 refine sn 0 3 fun hl0_3 => ?_
 refine sn 0 4 fun hl0_4 => ?_
 refine sn 0 5 fun hl0_5 => ?_
 refine sn 0 6 fun hl0_6 => ?_
 refine sn 1 2 fun hl1_2 => ?_
 have hbu := hb
 simp only [bp, c6, dK, dJ] at hbu
 have haw := BN e.Store u
 have hww := BO e u
 refine IH ?_
 refine GO ?_
 refine yF ?_
 refine rl ?_
 refine sO [(2, _), (3, _), (4, _), (5, _), (6, _)] [(2, _), (3, _), (4, _), (6, (32, [sl _ _, val _, val _, sl _ _, sl _ _, sl _ _, sl _ _, val _]))] ?_
 refine mr ?_
 refine rA ?_ (x := cL [(true, [sl (.lo _) _, val _, val _, sl (.lo _) _, sl (.lo _) _, sl (.lo _) _, sl (.lo _) _, val _])] [(true, [sl .v _, val _, val _, sl .v _, sl .v _, sl .v _, sl .v _, val _])] wv (hs := by exact (wF (by omega))))
 refine rA ?_ (x := nT)
 refine sc (fun hba => ?_) (fun hba => ?_)
 have hno : (bh e && (dq e.Store u).2) = false := by first | (simp_all; done) | (cases h1_ : bh e <;> cases h2_ : (dq e.Store u).2 <;> simp_all)
 refine sS [2, 3, 4, 5, 6] [2, 3, 4, 6] ?_
 exact F9
 refine vo ?_
 refine zC ?_
 refine rA ?_ (x := lD [val _, val _, sl (.lo _) _, val _, val _] kg)
 refine rA ?_ (x := cL [(true, [sl (.lo _) _, val _]), (true, [val _, val _, sl (.lo _) _, val _, val _])] [(true, [sl .v _, val _]), (true, [val _, val _, sl .v _, val _, val _])] RJ (hs := by exact (VL (by omega) (by omega))))
 refine rA ?_ (x := tM)
 refine uE ?_
 refine mu ?_
 refine fA ?_
 refine Iv ?_
 refine px ?_
 refine rA ?_ (x := nT)
 refine sc (fun hbb => ?_) (fun hbb => ?_)
 exact yl
 have hok : (bh e && (dq e.Store u).2) = true := by first | (simp_all; done) | (cases h1_ : bh e <;> cases h2_ : (dq e.Store u).2 <;> simp_all)
 refine bl ?_
 refine GI ?_
 refine sx ?_
 refine aP ?_
 refine Ho ?_
 refine wO [(2, _), (3, _), (4, _), (5, _), (6, _), (7, _), (8, _)] [(2, _), (3, _), (4, _), (6, _), (7, _)] ?_
 refine r5 (bx := 6) (L := (Lw w0.heap.size)) (qs := []) (as_ := []) (by decide) AZ rfl (by exact rfl) (by exact rfl) (by exact tI) (by exact tI) (by decide) (by exact tI) (by exact (BV (e := qd e (dq e.Store u).1) (by omega))) (fun x hx => hx) (by exact lq) (by exact lq) ?_
 refine dg ?_
 refine aP ?_
 refine sO [(2, _), (3, _), (4, _), (5, _), (6, _), (7, _), (8, _)] [(2, _), (3, _), (4, _), (6, (32, [sl _ _, val _, val _, sl _ _, sl _ _, sl _ _, sl _ _, val _])), (7, _)] ?_
 refine rg ?_
 refine rK ?_
 exact Ga
def Md {p1 p2 p5 p6 p7 p8 p9 p11 p12 p13 p14 p16 p17 p18 : Fl} {e : aL} {x : eH}  (hb : bp e ≤ 68710000000) (hx : jO x ≤ 68710000000) : aC prog 23 [(true, [sl .v (e.Store.Wr.map (aD p1 p2)), val (vI e.Store.Now), val (vI e.Ww), sl .v (e.Order.map ak), sl .v (e.Ws.map (aO p5 p6 p7 p8 p9)), sl .v (e.Done.map (aZ p11 p12 p13 p14)), sl .v (e.WE.map (a7 p16 p17 p18)), val (vI e.Steps)]), (true, [val (vI x.Kind), val (vI x.Wt.Id), val (vI x.Wt.Wx), sl .v (x.Wt.Wu.map bf), sl .v (x.Wt.Out.map ak), val (vI x.Limit), val (vI x.Id), val (vI x.Wv.Kind), val (vI x.Wv.Row.Id), sl .v (x.Wv.Row.Values.map ak), val (vI x.Wv.Field), val (vI x.Wv.Value), val (vI x.Steps)])] (az [(true, [sl bo ((dP e x).1.Store.Wr.map (aD aS aa)), val (vI (dP e x).1.Store.Now), val (vI (dP e x).1.Ww), sl aa ((dP e x).1.Order.map ak), sl bS ((dP e x).1.Ws.map (aO ay aa aa aB aa)), sl bM ((dP e x).1.Done.map (aZ ay aa aB aa)), sl bP ((dP e x).1.WE.map (a7 aa aa aa)), val (vI (dP e x).1.Steps)]), (false, [val (.bool (dP e x).2)])]) := by
 refine sF func23 fun h0 w0 Fz0 => ?_
 refine sn 0 0 fun hl0_0 => ?_
 refine sn 0 3 fun hl0_3 => ?_
 refine sn 0 4 fun hl0_4 => ?_
 refine sn 0 5 fun hl0_5 => ?_
 refine sn 0 6 fun hl0_6 => ?_
 refine sn 1 3 fun hl1_3 => ?_
 refine sn 1 4 fun hl1_4 => ?_
 refine sn 1 9 fun hl1_9 => ?_
 have hbu := hb
 simp only [bp, c6, dK, dJ] at hbu
 have hbx := hx
 simp only [jO, a9] at hbx
 refine HE ?_
 refine u5 ?_
 refine sT [2, 3, 4, 5] [2, 3, 4] ?_
 refine yy ?_
 refine fB ?_
 refine cx 9 (fun ga sga => ?_) (fun ga sga => ?_)
 refine mH ?_
 exact Gc
 refine rB ga ?_ (x := lD [val _, val _, val _, sl .v _, sl .v _, val _, val _, val _, val _, sl .v _, val _, val _, val _] mR)
 refine rB ga ?_ (x := cL [(true, [val _, val _, val _, sl _ _, sl _ _, val _, val _, val _, val _, sl _ _, val _, val _, val _])] [(true, [val _, val _, val _, sl .v _, sl .v _, val _, val _, val _, val _, sl .v _, val _, val _, val _])] Sh (hs := by exact V2))
 refine ly ?_
 refine sc (fun hba => ?_) (fun hba => ?_)
 exact Gc
 have hok : (bh e && eQ x) = true := by first | (simp_all; done) | (cases h1_ : bh e <;> cases h2_ : eQ x <;> simp_all)
 refine cO ?_
 refine sS [2, 3, 4, 5] [2, 3, 4] ?_
 refine s2 ?_
 refine Ah ?_
 refine sc (fun hbb => ?_) (fun hbb => ?_)
 have hk1 : x.Kind = 1 := by first | exact hbb | simpa using hbb
 refine u4 ?_
 refine nI ?_
 refine zY ?_
 refine rA ?_ (x := cL [(true, [sl _ _, val _, val _, sl _ _, sl _ _, sl _ _, sl _ _, val _]), (true, [val _, val _, sl _ _, sl _ _]), (false, [val _])] [(true, [sl .v _, val _, val _, sl .v _, sl .v _, sl .v _, sl .v _, val _]), (true, [val _, val _, sl .v _, sl .v _]), (false, [val _])] Si (hs := by exact (VD (by omega) (by omega))))
 exact ym
 have hk1n : ¬ x.Kind = 1 := by first | exact hbb | simpa using hbb
 refine Ah ?_
 refine sc (fun hbc => ?_) (fun hbc => ?_)
 have hk2 : x.Kind = 2 := by first | exact hbc | simpa using hbc
 refine u4 ?_
 refine zZ ?_
 refine rA ?_ (x := cL [(true, [sl _ _, val _, val _, sl _ _, sl _ _, sl _ _, sl _ _, val _]), (false, [val _])] [(true, [sl .v _, val _, val _, sl .v _, sl .v _, sl .v _, sl .v _, val _]), (false, [val _])] Sj (hs := by exact (VF (by omega))))
 exact ym
 have hk2n : ¬ x.Kind = 2 := by first | exact hbc | simpa using hbc
 refine Ah ?_
 refine sc (fun hbd => ?_) (fun hbd => ?_)
 have hk3 : x.Kind = 3 := by first | exact hbd | simpa using hbd
 refine u4 ?_
 refine pd ?_
 refine rA ?_ (x := cL [(true, [sl _ _, val _, val _, sl _ _, sl _ _, sl _ _, sl _ _, val _]), (true, [val _, val _, sl _ _, val _, val _])] [(true, [sl .v _, val _, val _, sl .v _, sl .v _, sl .v _, sl .v _, val _]), (true, [val _, val _, sl .v _, val _, val _])] Sk (hs := by exact (V5 (by omega) (by omega))))
 exact ym
 have hk3n : ¬ x.Kind = 3 := by first | exact hbd | simpa using hbd
 refine bl ?_
 refine u4 ?_
 refine z7 ?_
 refine rA ?_ (x := cL [(true, [sl _ _, val _, val _, sl _ _, sl _ _, sl _ _, sl _ _, val _]), (false, [val _])] [(true, [sl .v _, val _, val _, sl .v _, sl .v _, sl .v _, sl .v _, val _]), (false, [val _])] Rr (hs := by exact (V3 (by omega))))
 refine rA ?_ (x := bd (ag := true) (vs := [sl _ _, val _, val _, sl _ _, sl _ _, sl _ _, sl _ _, val _]) bZ (by exact tI) (by exact rfl) (by exact nl rfl))
 refine rK ?_
 exact Gd
def V7 {p1 p2 p5 p6 p7 p8 p9 p11 p12 p13 p14 p16 p17 p18 : Fl} {e : aL} {x : eH}  (hb : bp e ≤ 68710000000) (hx : jO x ≤ 68710000000) : aC prog 24 [(true, [sl .v (e.Store.Wr.map (aD p1 p2)), val (vI e.Store.Now), val (vI e.Ww), sl .v (e.Order.map ak), sl .v (e.Ws.map (aO p5 p6 p7 p8 p9)), sl .v (e.Done.map (aZ p11 p12 p13 p14)), sl .v (e.WE.map (a7 p16 p17 p18)), val (vI e.Steps)]), (true, [val (vI x.Kind), val (vI x.Wt.Id), val (vI x.Wt.Wx), sl .v (x.Wt.Wu.map bf), sl .v (x.Wt.Out.map ak), val (vI x.Limit), val (vI x.Id), val (vI x.Wv.Kind), val (vI x.Wv.Row.Id), sl .v (x.Wv.Row.Values.map ak), val (vI x.Wv.Field), val (vI x.Wv.Value), val (vI x.Steps)])] (az [(true, [sl bo ((dP e x).1.Store.Wr.map (aD aS aa)), val (vI (dP e x).1.Store.Now), val (vI (dP e x).1.Ww), sl aa ((dP e x).1.Order.map ak), sl bS ((dP e x).1.Ws.map (aO ay aa aa aB aa)), sl bM ((dP e x).1.Done.map (aZ ay aa aB aa)), sl bP ((dP e x).1.WE.map (a7 aa aa aa)), val (vI (dP e x).1.Steps)]), (false, [val (.bool (dP e x).2)])]) := by
 refine sF func24 fun h0 w0 Fz0 => ?_
 refine sn 0 0 fun hl0_0 => ?_
 refine sn 0 3 fun hl0_3 => ?_
 refine sn 0 4 fun hl0_4 => ?_
 refine sn 0 5 fun hl0_5 => ?_
 refine sn 0 6 fun hl0_6 => ?_
 refine sn 1 3 fun hl1_3 => ?_
 refine sn 1 4 fun hl1_4 => ?_
 refine sn 1 9 fun hl1_9 => ?_
 have hbu := hb
 simp only [bp, c6, dK, dJ] at hbu
 have hbx := hx
 simp only [jO, a9] at hbx
 refine HE ?_
 refine rX ?_ (x := (bR (by decide) jR jT))
 refine rK ?_
 refine sT [2, 3, 4, 5] [2, 3, 4] ?_
 refine uF ?_
 refine rl ?_
 refine H0 ?_
 refine yx ?_
 refine fB ?_
 refine cx 13 (fun ga sga => ?_) (fun ga sga => ?_)
 refine mH ?_
 exact Gf
 refine rB ga ?_ (x := lD [val _, val _, val _, sl .v _, sl .v _, val _, val _, val _, val _, sl .v _, val _, val _, val _] mR)
 refine rB ga ?_ (x := cL [(true, [val _, val _, val _, sl _ _, sl _ _, val _, val _, val _, val _, sl _ _, val _, val _, val _])] [(true, [val _, val _, val _, sl .v _, sl .v _, val _, val _, val _, val _, sl .v _, val _, val _, val _])] Sl (hs := by exact V1))
 refine ly ?_
 refine sc (fun hba => ?_) (fun hba => ?_)
 exact Gf
 have hok : (bh e && eQ x) = true := by first | (simp_all; done) | (cases h1_ : bh e <;> cases h2_ : eQ x <;> simp_all)
 refine vo ?_
 refine dz ?_
 refine sS [2, 3, 4, 5, 6, 7] [2, 3, 4, 6] ?_
 refine s2 ?_
 refine z8 ?_
 refine sc (fun hbb => ?_) (fun hbb => ?_)
 have hk1 : x.Kind = 1 := by first | exact hbb | simpa using hbb
 refine uW ?_
 refine nI ?_
 refine zY ?_
 refine rA ?_ (x := cL [(true, [sl _ _, val _, val _, sl _ _, sl _ _, sl _ _, sl _ _, val _]), (true, [val _, val _, sl _ _, sl _ _]), (false, [val _])] [(true, [sl .v _, val _, val _, sl .v _, sl .v _, sl .v _, sl .v _, val _]), (true, [val _, val _, sl .v _, sl .v _]), (false, [val _])] Sm (hs := by exact (VE (by omega) (by omega))))
 exact yn
 have hk1n : ¬ x.Kind = 1 := by first | exact hbb | simpa using hbb
 refine z8 ?_
 refine sc (fun hbc => ?_) (fun hbc => ?_)
 have hk2 : x.Kind = 2 := by first | exact hbc | simpa using hbc
 refine uW ?_
 refine zZ ?_
 refine rA ?_ (x := cL [(true, [sl _ _, val _, val _, sl _ _, sl _ _, sl _ _, sl _ _, val _]), (false, [val _])] [(true, [sl .v _, val _, val _, sl .v _, sl .v _, sl .v _, sl .v _, val _]), (false, [val _])] Sn (hs := by exact (VG (by omega))))
 exact yn
 have hk2n : ¬ x.Kind = 2 := by first | exact hbc | simpa using hbc
 refine z8 ?_
 refine sc (fun hbd => ?_) (fun hbd => ?_)
 have hk3 : x.Kind = 3 := by first | exact hbd | simpa using hbd
 refine uW ?_
 refine pd ?_
 refine rA ?_ (x := cL [(true, [sl _ _, val _, val _, sl _ _, sl _ _, sl _ _, sl _ _, val _]), (true, [val _, val _, sl _ _, val _, val _])] [(true, [sl .v _, val _, val _, sl .v _, sl .v _, sl .v _, sl .v _, val _]), (true, [val _, val _, sl .v _, val _, val _])] So (hs := by exact (V6 (by omega) (by omega))))
 exact yn
 have hk3n : ¬ x.Kind = 3 := by first | exact hbd | simpa using hbd
 refine uW ?_
 refine z7 ?_
 refine rA ?_ (x := cL [(true, [sl _ _, val _, val _, sl _ _, sl _ _, sl _ _, sl _ _, val _]), (false, [val _])] [(true, [sl .v _, val _, val _, sl .v _, sl .v _, sl .v _, sl .v _, val _]), (false, [val _])] Sp (hs := by exact (V4 (by omega))))
 refine rA ?_ (x := bd (ag := true) (vs := [sl _ _, val _, val _, sl _ _, sl _ _, sl _ _, sl _ _, val _]) bZ (by exact tI) (by exact rfl) (by exact nl rfl))
 exact Gg
end Go.Proofs.YtmekkgdboplbjaaGreat
