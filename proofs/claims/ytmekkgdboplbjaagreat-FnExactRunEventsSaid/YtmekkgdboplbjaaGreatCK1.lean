/- What functions of the program compute. No condition. -/
import Derived.Test.YtmekkgdboplbjaaGreatCC1
import Derived.Test.YtmekkgdboplbjaaGreatCD1
import Derived.Test.YtmekkgdboplbjaaGreatCE1
import Derived.Test.YtmekkgdboplbjaaGreatCF1
import Derived.Test.YtmekkgdboplbjaaGreatCH1
import Derived.Test.YtmekkgdboplbjaaGreatCJ1
set_option linter.all false
namespace Go.Proofs.YtmekkgdboplbjaaGreat
open Go Go.RowKit M PV Tryz
set_option maxRecDepth 10000
attribute [local irreducible] PV.Lcl PV.LclR RV.Lcl
set_option maxHeartbeats 8000000
def ab0 {p1 p2 p5 p6 p7 p8 p9 p11 p12 p13 p14 p16 p17 p18 : Fl} {e : aD} {n : Int}  (hb : bi e ≤ 68718000000) : aB prog 12 [(true, [sl .v (e.Store.act.map (aC p1 p2)), val (vI e.Store.Now), val (vI e.acy), sl .v (e.Order.map ak), sl .v (e.acu.map (aQ p5 p6 p7 p8 p9)), sl .v (e.Done.map (aX p11 p12 p13 p14)), sl .v (e.acG.map (aZ p16 p17 p18)), val (vI e.Steps)]), (false, [val (vI n)])] (aA [(true, [sl bo ((gM e n).Store.act.map (aC aS aa)), val (vI (gM e n).Store.Now), val (vI (gM e n).acy), sl aa ((gM e n).Order.map ak), sl bS ((gM e n).acu.map (aQ aw aa aa az aa)), sl bJ ((gM e n).Done.map (aX aw aa az aa)), sl bP ((gM e n).acG.map (aZ aa aa aa)), val (vI (gM e n).Steps)])]) := by
 refine sF func12 fun h0 w0 Fz0 => ?_
 refine sn 0 0 fun hl0_0 => ?_
 refine sn 0 3 fun hl0_3 => ?_
 refine sn 0 4 fun hl0_4 => ?_
 refine sn 0 5 fun hl0_5 => ?_
 refine sn 0 6 fun hl0_6 => ?_
 have hbu := hb
 simp only [bi, da, dQ, dP] at hbu
 refine py ?_
 refine sT [1, 2, 4] [2, 4] ?_
 refine wv ?_
 refine sW ?_
 refine LC ?_
 refine cH ?_
 refine Jn ?_
 rintro k hk
 have hrw := yP e k
 have hrl := DR n
 refine eH ?_
 refine iU ?_
 refine rM ?_
 refine cx 12 (fun ga sga => ?_) (fun ga sga => ?_)
 refine uw ?_
 refine rA ?_ (x := aT ga)
 refine sc (fun hba => ?_) (fun hba => ?_)
 have hlt : k < lG n := by unfold lG; first | omega | (simp_all; omega)
 refine bB ?_
 refine sH [1, 2, 4, 5, 6] [2, 4, 5] ?_
 refine rA ?_ (x := lD [sl .v _, val _, val _, sl .v _, sl .v _, sl .v _, sl .v _, val _] bU)
 refine rA ?_ (x := cL [(true, [sl _ _, val _, val _, sl _ _, sl _ _, sl _ _, sl _ _, val _])] [(true, [sl .v _, val _, val _, sl .v _, sl .v _, sl .v _, sl .v _, val _])] Xy (hs := by exact (abM (e := jh e k) (by omega))))
 refine rA ?_ (x := tM)
 refine KN ?_
 refine sO [(1, _), (2, _), (4, _), (5, _), (6, _)] [(2, _), (4, _), (5, (32, [sl _ _, val _, val _, sl _ _, sl _ _, sl _ _, sl _ _, val _]))] ?_
 exact IU
 exact Al
 exact IV
def ab1 {p1 p2 p5 p6 p7 p8 p9 p11 p12 p13 p14 p16 p17 p18 : Fl} {e : aD} {n : Int}  (hb : bi e ≤ 68718000000) : aB prog 90 [(true, [sl .v (e.Store.act.map (aC p1 p2)), val (vI e.Store.Now), val (vI e.acy), sl .v (e.Order.map ak), sl .v (e.acu.map (aQ p5 p6 p7 p8 p9)), sl .v (e.Done.map (aX p11 p12 p13 p14)), sl .v (e.acG.map (aZ p16 p17 p18)), val (vI e.Steps)]), (false, [val (vI n)])] (aA [(true, [sl bo ((gM e n).Store.act.map (aC aS aa)), val (vI (gM e n).Store.Now), val (vI (gM e n).acy), sl aa ((gM e n).Order.map ak), sl bS ((gM e n).acu.map (aQ aw aa aa az aa)), sl bJ ((gM e n).Done.map (aX aw aa az aa)), sl bP ((gM e n).acG.map (aZ aa aa aa)), val (vI (gM e n).Steps)])]) := by
 refine sF func90 fun h0 w0 Fz0 => ?_
 refine sn 0 0 fun hl0_0 => ?_
 refine sn 0 3 fun hl0_3 => ?_
 refine sn 0 4 fun hl0_4 => ?_
 refine sn 0 5 fun hl0_5 => ?_
 refine sn 0 6 fun hl0_6 => ?_
 have hbu := hb
 simp only [bi, da, dQ, dP] at hbu
 refine py ?_
 refine sT [1, 2, 4] [2, 4] ?_
 refine tU ?_
 refine sW ?_
 refine LC ?_
 refine cH ?_
 refine Jn ?_
 rintro k hk
 have hrw := yP e k
 have hrl := DR n
 refine eH ?_
 refine iU ?_
 refine rM ?_
 refine cx 14 (fun ga sga => ?_) (fun ga sga => ?_)
 refine uw ?_
 refine rA ?_ (x := aT ga)
 refine sc (fun hba => ?_) (fun hba => ?_)
 have hlt : k < lG n := by unfold lG; first | omega | (simp_all; omega)
 refine bB ?_
 refine sT [1, 2, 4, 5, 6] [2, 4, 5] ?_
 refine rA ?_ (x := lD [sl .v _, val _, val _, sl .v _, sl .v _, sl .v _, sl .v _, val _] bU)
 refine rA ?_ (x := cL [(true, [sl _ _, val _, val _, sl _ _, sl _ _, sl _ _, sl _ _, val _])] [(true, [sl .v _, val _, val _, sl .v _, sl .v _, sl .v _, sl .v _, val _])] Xz (hs := by exact (abS (e := jh e k) (by omega))))
 refine rA ?_ (x := tM)
 refine qu ?_
 refine jU ?_
 refine rS ?_
 refine sO [(1, _), (2, _), (4, _), (5, _), (6, _), (7, _), (8, _)] [(2, _), (4, _), (5, _), (7, (32, [sl _ _, val _, val _, sl _ _, sl _ _, sl _ _, sl _ _, val _]))] ?_
 refine pH ?_
 refine sO [(1, _), (2, _), (4, _), (5, _), (6, _), (7, _), (8, _)] [(2, _), (4, _), (5, (32, [sl _ _, val _, val _, sl _ _, sl _ _, sl _ _, sl _ _, val _])), (7, (32, [sl _ _, val _, val _, sl _ _, sl _ _, sl _ _, sl _ _, val _]))] ?_
 exact IU
 exact Al
 exact IV
def ab2 {p1 p2 p5 p6 p7 p8 p9 p11 p12 p13 p14 p16 p17 p18 : Fl} {e : aD} {u : acx}  (hb : bi e ≤ 68718000000) (hbu0 : hO u ≤ 68718000000) : aB prog 85 [(true, [sl .v (e.Store.act.map (aC p1 p2)), val (vI e.Store.Now), val (vI e.acy), sl .v (e.Order.map ak), sl .v (e.acu.map (aQ p5 p6 p7 p8 p9)), sl .v (e.Done.map (aX p11 p12 p13 p14)), sl .v (e.acG.map (aZ p16 p17 p18)), val (vI e.Steps)]), (true, [val (vI u.Kind), val (vI u.Row.Id), sl .v (u.Row.Values.map ak), val (vI u.Field), val (vI u.Value)])] (aA [(true, [sl bo ((cR e u).1.Store.act.map (aC aS aa)), val (vI (cR e u).1.Store.Now), val (vI (cR e u).1.acy), sl aa ((cR e u).1.Order.map ak), sl bS ((cR e u).1.acu.map (aQ aw aa aa az aa)), sl bJ ((cR e u).1.Done.map (aX aw aa az aa)), sl bP ((cR e u).1.acG.map (aZ aa aa aa)), val (vI (cR e u).1.Steps)]), (false, [val (.bool (cR e u).2)])]) := by
 refine kU (largs := fun L => [(true, [sl (.lo L) (e.Store.act.map (aC (.lo L) (.lo L))), val (vI e.Store.Now), val (vI e.acy), sl (.lo L) (e.Order.map ak), sl (.lo L) (e.acu.map (aQ (.lo L) (.lo L) (.lo L) (.lo L) (.lo L))), sl (.lo L) (e.Done.map (aX (.lo L) (.lo L) (.lo L) (.lo L))), sl (.lo L) (e.acG.map (aZ (.lo L) (.lo L) (.lo L))), val (vI e.Steps)]), (true, [val (vI u.Kind), val (vI u.Row.Id), sl (.lo L) (u.Row.Values.map ak), val (vI u.Field), val (vI u.Value)])]) (rs := [(true, [sl bo ((cR e u).1.Store.act.map (aC aS aa)), val (vI (cR e u).1.Store.Now), val (vI (cR e u).1.acy), sl aa ((cR e u).1.Order.map ak), sl bS ((cR e u).1.acu.map (aQ aw aa aa az aa)), sl bJ ((cR e u).1.Done.map (aX aw aa az aa)), sl bP ((cR e u).1.acG.map (aZ aa aa aa)), val (vI (cR e u).1.Steps)]), (false, [val (.bool (cR e u).2)])]) func85 rfl (nl rfl) (fun L => by exact (aI (aI rfl (ab.cons (aM (fun _ => nl rfl) (fun _ => (ab.cons (aM (fun _ => nl rfl) (fun _ => (ab.cons ao (ab.cons (aM (fun _ => nl rfl) (fun _ => (ab.cons ao ab.nil))) (ab.cons ao (ab.cons ao ab.nil)))))) ab.nil))) (ab.cons ao (ab.cons ao (ab.cons (aM (fun _ => nl rfl) (fun _ => (ab.cons ao ab.nil))) (ab.cons (aM (fun _ => nl rfl) (fun _ => (ab.cons ao (ab.cons ao (ab.cons (aM (fun _ => nl rfl) (fun _ => (ab.cons ao (ab.cons ao (ab.cons ao ab.nil))))) (ab.cons (aM (fun _ => nl rfl) (fun _ => (ab.cons ao ab.nil))) (ab.cons ao (ab.cons (aM (fun _ => nl rfl) (fun _ => (ab.cons ao ab.nil))) (ab.cons ao (ab.cons ao (ab.cons ao (ab.cons (aM (fun _ => nl rfl) (fun _ => (ab.cons ao (ab.cons (aM (fun _ => nl rfl) (fun _ => (ab.cons ao ab.nil))) ab.nil)))) ab.nil)))))))))))) (ab.cons (aM (fun _ => nl rfl) (fun _ => (ab.cons ao (ab.cons ao (ab.cons (aM (fun _ => nl rfl) (fun _ => (ab.cons ao (ab.cons ao (ab.cons ao ab.nil))))) (ab.cons (aM (fun _ => nl rfl) (fun _ => (ab.cons ao ab.nil))) (ab.cons ao (ab.cons ao (ab.cons (aM (fun _ => nl rfl) (fun _ => (ab.cons ao (ab.cons (aM (fun _ => nl rfl) (fun _ => (ab.cons ao ab.nil))) ab.nil)))) ab.nil))))))))) (ab.cons (aM (fun _ => nl rfl) (fun _ => (ab.cons ao (ab.cons ao (ab.cons (aM (fun _ => nl rfl) (fun _ => (ab.cons ao ab.nil))) (ab.cons (aM (fun _ => nl rfl) (fun _ => (ab.cons ao ab.nil))) (ab.cons (aM (fun _ => nl rfl) (fun _ => (ab.cons ao ab.nil))) ab.nil))))))) (ab.cons ao ab.nil))))))))) (aI (aI rfl (ab.cons ao (ab.cons ao (ab.cons (aM (fun _ => nl rfl) (fun _ => (ab.cons ao ab.nil))) (ab.cons ao (ab.cons ao ab.nil)))))) tI))) (fun L => by exact lq) ?_
 intro w0 Fz0
 refine sn 0 0 fun hl0_0 => ?_
 refine sn 0 3 fun hl0_3 => ?_
 refine sn 0 4 fun hl0_4 => ?_
 refine sn 0 5 fun hl0_5 => ?_
 refine sn 0 6 fun hl0_6 => ?_
 refine sn 1 2 fun hl1_2 => ?_
 have hbu := hb
 simp only [bi, da, dQ, dP] at hbu
 have haw := DS e.Store u
 have hww := DT e u
 refine Mc ?_
 refine JM ?_
 refine AE ?_
 refine jU ?_
 refine aP ?_
 refine Lf ?_
 refine BA ?_
 refine rA ?_ (x := lD [val _, val _, sl (.lo _) _, val _, val _] mo)
 refine rA ?_ (x := cL [(true, [sl (.lo _) _, val _]), (true, [val _, val _, sl (.lo _) _, val _, val _])] [(true, [sl .v _, val _]), (true, [val _, val _, sl .v _, val _, val _])] WS (hs := by exact (abH (by omega) (by omega))))
 refine rA ?_ (x := tM)
 refine wu ?_
 refine od ?_
 refine eZ ?_
 refine LP ?_
 refine ob ?_
 refine AF ?_
 refine cx 21 (fun ga sga => ?_) (fun ga sga => ?_)
 refine oH ?_
 exact Am
 refine rB ga ?_ (x := sM)
 refine mP ?_
 refine sc (fun hba => ?_) (fun hba => ?_)
 exact Am
 have hok : (bk e && (dL e.Store u).2) = true := by first | (simp_all; done) | (cases h1_ : bk e <;> cases h2_ : (dL e.Store u).2 <;> simp_all)
 refine bm ?_
 refine JG ?_
 refine ug ?_
 refine aP ?_
 refine Kt ?_
 refine wA ?_ (x := cz (ms := [sl _ _, val _, val _, sl _ _, sl _ _, sl _ _, sl _ _, val _]) (qs := [any, val _, val _, any, any, any, any, val _]) (by decide) bU (fun h => nomatch h) (by exact nl rfl) (by exact rfl) (by exact (am.cons PV.to_any (ap (ap (am.cons PV.to_any (am.cons PV.to_any (am.cons PV.to_any (am.cons PV.to_any (ap am.nil))))))))) (by exact lq))
 refine wO [(2, _), (3, _), (4, _), (5, _), (6, _), (7, _), (8, _), (28, _)] [(2, _), (3, _), (4, _), (6, (32, [any, val _, val _, any, any, any, any, val _])), (7, _)] ?_
 refine zC (L := (Lw w0.heap.size)) (qs := [(true, [sl _ _, val _, val _, sl _ _, sl _ _, sl _ _, sl _ _, val _])]) (as_ := [(true, [sl _ _, val _, val _, sl _ _, sl _ _, sl _ _, sl _ _, val _])]) (by decide) CV (by exact ⟨rfl, ⟨⟩⟩) (by exact (aI (by exact tI) tI)) (by decide) (by exact lq) (by exact (Eb (e := rC e (dL e.Store u).1) (by omega))) (fun x hx => hx) (by exact lq) (by exact lq) ?_
 refine wA ?_ (x := bg (ag := true) (vs := [sl _ _, val _, val _, sl _ _, sl _ _, sl _ _, sl _ _, val _]) bU (by exact tI) (by exact rfl) (by exact nl rfl))
 refine wA ?_ (x := kA)
 refine dO ?_
 exact IX
def ab3 {p1 p2 p5 p6 p7 p8 p9 p11 p12 p13 p14 p16 p17 p18 : Fl} {e : aD} {u : acx}  (hb : bi e ≤ 68718000000) (hbu0 : hO u ≤ 68718000000) : aB prog 89 [(true, [sl .v (e.Store.act.map (aC p1 p2)), val (vI e.Store.Now), val (vI e.acy), sl .v (e.Order.map ak), sl .v (e.acu.map (aQ p5 p6 p7 p8 p9)), sl .v (e.Done.map (aX p11 p12 p13 p14)), sl .v (e.acG.map (aZ p16 p17 p18)), val (vI e.Steps)]), (true, [val (vI u.Kind), val (vI u.Row.Id), sl .v (u.Row.Values.map ak), val (vI u.Field), val (vI u.Value)])] (aA [(true, [sl bo ((cR e u).1.Store.act.map (aC aS aa)), val (vI (cR e u).1.Store.Now), val (vI (cR e u).1.acy), sl aa ((cR e u).1.Order.map ak), sl bS ((cR e u).1.acu.map (aQ aw aa aa az aa)), sl bJ ((cR e u).1.Done.map (aX aw aa az aa)), sl bP ((cR e u).1.acG.map (aZ aa aa aa)), val (vI (cR e u).1.Steps)]), (false, [val (.bool (cR e u).2)])]) := by
 refine kU (largs := fun L => [(true, [sl (.lo L) (e.Store.act.map (aC (.lo L) (.lo L))), val (vI e.Store.Now), val (vI e.acy), sl (.lo L) (e.Order.map ak), sl (.lo L) (e.acu.map (aQ (.lo L) (.lo L) (.lo L) (.lo L) (.lo L))), sl (.lo L) (e.Done.map (aX (.lo L) (.lo L) (.lo L) (.lo L))), sl (.lo L) (e.acG.map (aZ (.lo L) (.lo L) (.lo L))), val (vI e.Steps)]), (true, [val (vI u.Kind), val (vI u.Row.Id), sl (.lo L) (u.Row.Values.map ak), val (vI u.Field), val (vI u.Value)])]) (rs := [(true, [sl bo ((cR e u).1.Store.act.map (aC aS aa)), val (vI (cR e u).1.Store.Now), val (vI (cR e u).1.acy), sl aa ((cR e u).1.Order.map ak), sl bS ((cR e u).1.acu.map (aQ aw aa aa az aa)), sl bJ ((cR e u).1.Done.map (aX aw aa az aa)), sl bP ((cR e u).1.acG.map (aZ aa aa aa)), val (vI (cR e u).1.Steps)]), (false, [val (.bool (cR e u).2)])]) func89 rfl (nl rfl) (fun L => by exact (aI (aI rfl (ab.cons (aM (fun _ => nl rfl) (fun _ => (ab.cons (aM (fun _ => nl rfl) (fun _ => (ab.cons ao (ab.cons (aM (fun _ => nl rfl) (fun _ => (ab.cons ao ab.nil))) (ab.cons ao (ab.cons ao ab.nil)))))) ab.nil))) (ab.cons ao (ab.cons ao (ab.cons (aM (fun _ => nl rfl) (fun _ => (ab.cons ao ab.nil))) (ab.cons (aM (fun _ => nl rfl) (fun _ => (ab.cons ao (ab.cons ao (ab.cons (aM (fun _ => nl rfl) (fun _ => (ab.cons ao (ab.cons ao (ab.cons ao ab.nil))))) (ab.cons (aM (fun _ => nl rfl) (fun _ => (ab.cons ao ab.nil))) (ab.cons ao (ab.cons (aM (fun _ => nl rfl) (fun _ => (ab.cons ao ab.nil))) (ab.cons ao (ab.cons ao (ab.cons ao (ab.cons (aM (fun _ => nl rfl) (fun _ => (ab.cons ao (ab.cons (aM (fun _ => nl rfl) (fun _ => (ab.cons ao ab.nil))) ab.nil)))) ab.nil)))))))))))) (ab.cons (aM (fun _ => nl rfl) (fun _ => (ab.cons ao (ab.cons ao (ab.cons (aM (fun _ => nl rfl) (fun _ => (ab.cons ao (ab.cons ao (ab.cons ao ab.nil))))) (ab.cons (aM (fun _ => nl rfl) (fun _ => (ab.cons ao ab.nil))) (ab.cons ao (ab.cons ao (ab.cons (aM (fun _ => nl rfl) (fun _ => (ab.cons ao (ab.cons (aM (fun _ => nl rfl) (fun _ => (ab.cons ao ab.nil))) ab.nil)))) ab.nil))))))))) (ab.cons (aM (fun _ => nl rfl) (fun _ => (ab.cons ao (ab.cons ao (ab.cons (aM (fun _ => nl rfl) (fun _ => (ab.cons ao ab.nil))) (ab.cons (aM (fun _ => nl rfl) (fun _ => (ab.cons ao ab.nil))) (ab.cons (aM (fun _ => nl rfl) (fun _ => (ab.cons ao ab.nil))) ab.nil))))))) (ab.cons ao ab.nil))))))))) (aI (aI rfl (ab.cons ao (ab.cons ao (ab.cons (aM (fun _ => nl rfl) (fun _ => (ab.cons ao ab.nil))) (ab.cons ao (ab.cons ao ab.nil)))))) tI))) (fun L => by exact lq) ?_
 intro w0 Fz0
 refine sn 0 0 fun hl0_0 => ?_
 refine sn 0 3 fun hl0_3 => ?_
 refine sn 0 4 fun hl0_4 => ?_
 refine sn 0 5 fun hl0_5 => ?_
 refine sn 0 6 fun hl0_6 => ?_
 refine sn 1 2 fun hl1_2 => ?_
 have hbu := hb
 simp only [bi, da, dQ, dP] at hbu
 have haw := DS e.Store u
 have hww := DT e u
 refine Mc ?_
 refine JM ?_
 refine AG ?_
 refine sW ?_
 refine sO [(2, _), (3, _), (4, _), (5, _), (6, _)] [(2, _), (3, _), (4, _), (6, (32, [sl _ _, val _, val _, sl _ _, sl _ _, sl _ _, sl _ _, val _]))] ?_
 refine ob ?_
 refine rA ?_ (x := cL [(true, [sl (.lo _) _, val _, val _, sl (.lo _) _, sl (.lo _) _, sl (.lo _) _, sl (.lo _) _, val _])] [(true, [sl .v _, val _, val _, sl .v _, sl .v _, sl .v _, sl .v _, val _])] yk (hs := by exact (yv (by omega))))
 refine rA ?_ (x := nT)
 refine sc (fun hba => ?_) (fun hba => ?_)
 have hno : (bk e && (dL e.Store u).2) = false := by first | (simp_all; done) | (cases h1_ : bk e <;> cases h2_ : (dL e.Store u).2 <;> simp_all)
 refine sS [2, 3, 4, 5, 6] [2, 3, 4, 6] ?_
 exact IW
 refine xn ?_
 refine BA ?_
 refine rA ?_ (x := lD [val _, val _, sl (.lo _) _, val _, val _] mo)
 refine rA ?_ (x := cL [(true, [sl (.lo _) _, val _]), (true, [val _, val _, sl (.lo _) _, val _, val _])] [(true, [sl .v _, val _]), (true, [val _, val _, sl .v _, val _, val _])] WR (hs := by exact (abI (by omega) (by omega))))
 refine rA ?_ (x := tM)
 refine wu ?_
 refine od ?_
 refine eZ ?_
 refine LP ?_
 refine oG ?_
 refine rA ?_ (x := nT)
 refine sc (fun hbb => ?_) (fun hbb => ?_)
 exact Am
 have hok : (bk e && (dL e.Store u).2) = true := by first | (simp_all; done) | (cases h1_ : bk e <;> cases h2_ : (dL e.Store u).2 <;> simp_all)
 refine bm ?_
 refine JG ?_
 refine ug ?_
 refine aP ?_
 refine Kt ?_
 refine wO [(2, _), (3, _), (4, _), (5, _), (6, _), (7, _), (8, _)] [(2, _), (3, _), (4, _), (6, _), (7, _)] ?_
 refine tH (bx := 6) (L := (Lw w0.heap.size)) (qs := []) (as_ := []) (by decide) CW rfl (by exact rfl) (by exact rfl) (by exact tI) (by exact tI) (by decide) (by exact tI) (by exact (Ec (e := rC e (dL e.Store u).1) (by omega))) (fun x hx => hx) (by exact lq) (by exact lq) ?_
 refine dO ?_
 refine aP ?_
 refine sO [(2, _), (3, _), (4, _), (5, _), (6, _), (7, _), (8, _)] [(2, _), (3, _), (4, _), (6, (32, [sl _ _, val _, val _, sl _ _, sl _ _, sl _ _, sl _ _, val _])), (7, _)] ?_
 refine pH ?_
 refine rK ?_
 exact IX
def ab4 {p1 p2 p5 p6 p7 p8 p9 p11 p12 p13 p14 p16 p17 p18 : Fl} {e : aD} {x : cC}  (hb : bi e ≤ 68710000000) (hx : fG x ≤ 68710000000) : aB prog 23 [(true, [sl .v (e.Store.act.map (aC p1 p2)), val (vI e.Store.Now), val (vI e.acy), sl .v (e.Order.map ak), sl .v (e.acu.map (aQ p5 p6 p7 p8 p9)), sl .v (e.Done.map (aX p11 p12 p13 p14)), sl .v (e.acG.map (aZ p16 p17 p18)), val (vI e.Steps)]), (true, [val (vI x.Kind), val (vI x.acv.Id), val (vI x.acv.acz), sl .v (x.acv.acw.map bj), sl .v (x.acv.Out.map ak), val (vI x.Limit), val (vI x.Id), val (vI x.acx.Kind), val (vI x.acx.Row.Id), sl .v (x.acx.Row.Values.map ak), val (vI x.acx.Field), val (vI x.acx.Value), val (vI x.Steps)])] (aA [(true, [sl bo ((dq e x).1.Store.act.map (aC aS aa)), val (vI (dq e x).1.Store.Now), val (vI (dq e x).1.acy), sl aa ((dq e x).1.Order.map ak), sl bS ((dq e x).1.acu.map (aQ aw aa aa az aa)), sl bJ ((dq e x).1.Done.map (aX aw aa az aa)), sl bP ((dq e x).1.acG.map (aZ aa aa aa)), val (vI (dq e x).1.Steps)]), (false, [val (.bool (dq e x).2)])]) := by
 refine sF func23 fun h0 w0 Fz0 => ?_
 refine sn 0 0 fun hl0_0 => ?_
 refine sn 0 3 fun hl0_3 => ?_
 refine sn 0 4 fun hl0_4 => ?_
 refine sn 0 5 fun hl0_5 => ?_
 refine sn 0 6 fun hl0_6 => ?_
 refine sn 1 3 fun hl1_3 => ?_
 refine sn 1 4 fun hl1_4 => ?_
 refine sn 1 9 fun hl1_9 => ?_
 have hbu := hb
 simp only [bi, da, dQ, dP] at hbu
 have hbx := hx
 simp only [fG, bd] at hbx
 refine KJ ?_
 refine wU ?_
 refine sT [2, 3, 4, 5] [2, 3, 4] ?_
 refine Ay ?_
 refine gp ?_
 refine cx 9 (fun ga sga => ?_) (fun ga sga => ?_)
 refine oH ?_
 exact IZ
 refine rB ga ?_ (x := lD [val _, val _, val _, sl .v _, sl .v _, val _, val _, val _, val _, sl .v _, val _, val _, val _] ln)
 refine rB ga ?_ (x := cL [(true, [val _, val _, val _, sl _ _, sl _ _, val _, val _, val _, val _, sl _ _, val _, val _, val _])] [(true, [val _, val _, val _, sl .v _, sl .v _, val _, val _, val _, val _, sl .v _, val _, val _, val _])] XD (hs := by exact abZ))
 refine mP ?_
 refine sc (fun hba => ?_) (fun hba => ?_)
 exact IZ
 have hok : (bk e && fv x) = true := by first | (simp_all; done) | (cases h1_ : bk e <;> cases h2_ : fv x <;> simp_all)
 refine dt ?_
 refine sS [2, 3, 4, 5] [2, 3, 4] ?_
 refine uy ?_
 refine Ci ?_
 refine sc (fun hbb => ?_) (fun hbb => ?_)
 have hk1 : x.Kind = 1 := by first | exact hbb | simpa using hbb
 refine wT ?_
 refine pt ?_
 refine BV ?_
 refine rA ?_ (x := cL [(true, [sl _ _, val _, val _, sl _ _, sl _ _, sl _ _, sl _ _, val _]), (true, [val _, val _, sl _ _, sl _ _]), (false, [val _])] [(true, [sl .v _, val _, val _, sl .v _, sl .v _, sl .v _, sl .v _, val _]), (true, [val _, val _, sl .v _, sl .v _]), (false, [val _])] XE (hs := by exact (abA (by omega) (by omega))))
 exact An
 have hk1n : ¬ x.Kind = 1 := by first | exact hbb | simpa using hbb
 refine Ci ?_
 refine sc (fun hbc => ?_) (fun hbc => ?_)
 have hk2 : x.Kind = 2 := by first | exact hbc | simpa using hbc
 refine wT ?_
 refine BW ?_
 refine rA ?_ (x := cL [(true, [sl _ _, val _, val _, sl _ _, sl _ _, sl _ _, sl _ _, val _]), (false, [val _])] [(true, [sl .v _, val _, val _, sl .v _, sl .v _, sl .v _, sl .v _, val _]), (false, [val _])] XF (hs := by exact (abC (by omega))))
 exact An
 have hk2n : ¬ x.Kind = 2 := by first | exact hbc | simpa using hbc
 refine Ci ?_
 refine sc (fun hbd => ?_) (fun hbd => ?_)
 have hk3 : x.Kind = 3 := by first | exact hbd | simpa using hbd
 refine wT ?_
 refine qG ?_
 refine rA ?_ (x := cL [(true, [sl _ _, val _, val _, sl _ _, sl _ _, sl _ _, sl _ _, val _]), (true, [val _, val _, sl _ _, val _, val _])] [(true, [sl .v _, val _, val _, sl .v _, sl .v _, sl .v _, sl .v _, val _]), (true, [val _, val _, sl .v _, val _, val _])] XG (hs := by exact (ab2 (by omega) (by omega))))
 exact An
 have hk3n : ¬ x.Kind = 3 := by first | exact hbd | simpa using hbd
 refine bm ?_
 refine wT ?_
 refine BX ?_
 refine rA ?_ (x := cL [(true, [sl _ _, val _, val _, sl _ _, sl _ _, sl _ _, sl _ _, val _]), (false, [val _])] [(true, [sl .v _, val _, val _, sl .v _, sl .v _, sl .v _, sl .v _, val _]), (false, [val _])] Wz (hs := by exact (ab0 (by omega))))
 refine rA ?_ (x := bg (ag := true) (vs := [sl _ _, val _, val _, sl _ _, sl _ _, sl _ _, sl _ _, val _]) bU (by exact tI) (by exact rfl) (by exact nl rfl))
 refine rK ?_
 exact Ja
def ab5 {p1 p2 p5 p6 p7 p8 p9 p11 p12 p13 p14 p16 p17 p18 : Fl} {e : aD} {x : cC}  (hb : bi e ≤ 68710000000) (hx : fG x ≤ 68710000000) : aB prog 24 [(true, [sl .v (e.Store.act.map (aC p1 p2)), val (vI e.Store.Now), val (vI e.acy), sl .v (e.Order.map ak), sl .v (e.acu.map (aQ p5 p6 p7 p8 p9)), sl .v (e.Done.map (aX p11 p12 p13 p14)), sl .v (e.acG.map (aZ p16 p17 p18)), val (vI e.Steps)]), (true, [val (vI x.Kind), val (vI x.acv.Id), val (vI x.acv.acz), sl .v (x.acv.acw.map bj), sl .v (x.acv.Out.map ak), val (vI x.Limit), val (vI x.Id), val (vI x.acx.Kind), val (vI x.acx.Row.Id), sl .v (x.acx.Row.Values.map ak), val (vI x.acx.Field), val (vI x.acx.Value), val (vI x.Steps)])] (aA [(true, [sl bo ((dq e x).1.Store.act.map (aC aS aa)), val (vI (dq e x).1.Store.Now), val (vI (dq e x).1.acy), sl aa ((dq e x).1.Order.map ak), sl bS ((dq e x).1.acu.map (aQ aw aa aa az aa)), sl bJ ((dq e x).1.Done.map (aX aw aa az aa)), sl bP ((dq e x).1.acG.map (aZ aa aa aa)), val (vI (dq e x).1.Steps)]), (false, [val (.bool (dq e x).2)])]) := by
 refine sF func24 fun h0 w0 Fz0 => ?_
 refine sn 0 0 fun hl0_0 => ?_
 refine sn 0 3 fun hl0_3 => ?_
 refine sn 0 4 fun hl0_4 => ?_
 refine sn 0 5 fun hl0_5 => ?_
 refine sn 0 6 fun hl0_6 => ?_
 refine sn 1 3 fun hl1_3 => ?_
 refine sn 1 4 fun hl1_4 => ?_
 refine sn 1 9 fun hl1_9 => ?_
 have hbu := hb
 simp only [bi, da, dQ, dP] at hbu
 have hbx := hx
 simp only [fG, bd] at hbx
 refine KJ ?_
 refine rX ?_ (x := (bY (by decide) lp ls))
 refine rK ?_
 refine sT [2, 3, 4, 5] [2, 3, 4] ?_
 refine tU ?_
 refine sW ?_
 refine Lf ?_
 refine Ax ?_
 refine gp ?_
 refine cx 13 (fun ga sga => ?_) (fun ga sga => ?_)
 refine oH ?_
 exact Jc
 refine rB ga ?_ (x := lD [val _, val _, val _, sl .v _, sl .v _, val _, val _, val _, val _, sl .v _, val _, val _, val _] ln)
 refine rB ga ?_ (x := cL [(true, [val _, val _, val _, sl _ _, sl _ _, val _, val _, val _, val _, sl _ _, val _, val _, val _])] [(true, [val _, val _, val _, sl .v _, sl .v _, val _, val _, val _, val _, sl .v _, val _, val _, val _])] XH (hs := by exact abY))
 refine mP ?_
 refine sc (fun hba => ?_) (fun hba => ?_)
 exact Jc
 have hok : (bk e && fv x) = true := by first | (simp_all; done) | (cases h1_ : bk e <;> cases h2_ : fv x <;> simp_all)
 refine xn ?_
 refine fh ?_
 refine sS [2, 3, 4, 5, 6, 7] [2, 3, 4, 6] ?_
 refine uy ?_
 refine BY ?_
 refine sc (fun hbb => ?_) (fun hbb => ?_)
 have hk1 : x.Kind = 1 := by first | exact hbb | simpa using hbb
 refine wP ?_
 refine pt ?_
 refine BV ?_
 refine rA ?_ (x := cL [(true, [sl _ _, val _, val _, sl _ _, sl _ _, sl _ _, sl _ _, val _]), (true, [val _, val _, sl _ _, sl _ _]), (false, [val _])] [(true, [sl .v _, val _, val _, sl .v _, sl .v _, sl .v _, sl .v _, val _]), (true, [val _, val _, sl .v _, sl .v _]), (false, [val _])] XI (hs := by exact (abB (by omega) (by omega))))
 exact Ao
 have hk1n : ¬ x.Kind = 1 := by first | exact hbb | simpa using hbb
 refine BY ?_
 refine sc (fun hbc => ?_) (fun hbc => ?_)
 have hk2 : x.Kind = 2 := by first | exact hbc | simpa using hbc
 refine wP ?_
 refine BW ?_
 refine rA ?_ (x := cL [(true, [sl _ _, val _, val _, sl _ _, sl _ _, sl _ _, sl _ _, val _]), (false, [val _])] [(true, [sl .v _, val _, val _, sl .v _, sl .v _, sl .v _, sl .v _, val _]), (false, [val _])] XJ (hs := by exact (abD (by omega))))
 exact Ao
 have hk2n : ¬ x.Kind = 2 := by first | exact hbc | simpa using hbc
 refine BY ?_
 refine sc (fun hbd => ?_) (fun hbd => ?_)
 have hk3 : x.Kind = 3 := by first | exact hbd | simpa using hbd
 refine wP ?_
 refine qG ?_
 refine rA ?_ (x := cL [(true, [sl _ _, val _, val _, sl _ _, sl _ _, sl _ _, sl _ _, val _]), (true, [val _, val _, sl _ _, val _, val _])] [(true, [sl .v _, val _, val _, sl .v _, sl .v _, sl .v _, sl .v _, val _]), (true, [val _, val _, sl .v _, val _, val _])] XK (hs := by exact (ab3 (by omega) (by omega))))
 exact Ao
 have hk3n : ¬ x.Kind = 3 := by first | exact hbd | simpa using hbd
 refine wP ?_
 refine BX ?_
 refine rA ?_ (x := cL [(true, [sl _ _, val _, val _, sl _ _, sl _ _, sl _ _, sl _ _, val _]), (false, [val _])] [(true, [sl .v _, val _, val _, sl .v _, sl .v _, sl .v _, sl .v _, val _]), (false, [val _])] XL (hs := by exact (ab1 (by omega))))
 refine rA ?_ (x := bg (ag := true) (vs := [sl _ _, val _, val _, sl _ _, sl _ _, sl _ _, sl _ _, val _]) bU (by exact tI) (by exact rfl) (by exact nl rfl))
 exact Jd
def ab6 {p1 p2 p5 p6 p7 p8 p9 p11 p12 p13 p14 p16 p17 p18 p20 p21 p22 : Fl} {e : aD} {l : List cC}  (hb : bi e ≤ 68700000000) (hx : kH l ≤ 68700000000) : aB prog 49 [(true, [sl .v (e.Store.act.map (aC p1 p2)), val (vI e.Store.Now), val (vI e.acy), sl .v (e.Order.map ak), sl .v (e.acu.map (aQ p5 p6 p7 p8 p9)), sl .v (e.Done.map (aX p11 p12 p13 p14)), sl .v (e.acG.map (aZ p16 p17 p18)), val (vI e.Steps)]), (false, [sl .v (l.map (hP p20 p21 p22))])] (aA [(true, [sl bo ((fO e l).1.Store.act.map (aC aS aa)), val (vI (fO e l).1.Store.Now), val (vI (fO e l).1.acy), sl aa ((fO e l).1.Order.map ak), sl bS ((fO e l).1.acu.map (aQ aw aa aa az aa)), sl bJ ((fO e l).1.Done.map (aX aw aa az aa)), sl bP ((fO e l).1.acG.map (aZ aa aa aa)), val (vI (fO e l).1.Steps)]), (false, [val (vI (fO e l).2)])]) := by
 refine sF func49 fun h0 w0 Fz0 => ?_
 refine sn 0 0 fun hl0_0 => ?_
 refine sn 0 3 fun hl0_3 => ?_
 refine sn 0 4 fun hl0_4 => ?_
 refine sn 0 5 fun hl0_5 => ?_
 refine sn 0 6 fun hl0_6 => ?_
 refine sj 1 fun hl1 => ?_
 have hbu := hb
 simp only [bi, da, dQ, dP] at hbu
 have hbx := hx
 simp only [kH] at hbx
 refine py ?_
 refine rK ?_
 refine sT [1, 2, 4, 5] [2, 4] ?_
 refine wv ?_
 refine jU ?_
 refine wK ?_
 refine bf ?_
 refine fh ?_
 refine sS [1, 2, 4, 5, 6, 7] [2, 4, 6] ?_
 refine rA ?_ (x := vM false [sl .v _])
 refine rA ?_ (x := vM false [sl .v _])
 refine rA ?_ (x := lN ia)
 refine rA ?_ (x := Ey (by decide) (by exact tI) (eV rfl))
 refine rA ?_ (x := tB (i := 0) (j := (min l.length 60)) (ys := (l.take (min l.length 60))) (q := (0 : Int)) (by decide) ia (by exact rfl) (by exact tI) (by rfl) (by omega) (by omega) (by omega) (fun _ => rfl) (by simp))
 refine rA ?_ (x := lN ia)
 refine dZ ?_
 refine sP [1, 2, 4, 5, 6, 7, 18, 19, 20] [2, 4, 6] ?_
 refine sL [1, 2, 4, 5, 6, 18, 19] [2, 4] (fun k : Nat => k ≤ (min l.length 60)) (fun k : Nat => [(7, RV.int (cV e l k).2), (20, RV.int (k : Int))]) (fun k : Nat => [(6, (32, [sl bo ((cV e l k).1.Store.act.map (aC aS aa)), val (vI (cV e l k).1.Store.Now), val (vI (cV e l k).1.acy), sl aa ((cV e l k).1.Order.map ak), sl bS ((cV e l k).1.acu.map (aQ aw aa aa az aa)), sl bJ ((cV e l k).1.Done.map (aX aw aa az aa)), sl bP ((cV e l k).1.acG.map (aZ aa aa aa)), val (vI (cV e l k).1.Steps)]))]) (fun k : Nat => (min l.length 60) - k) 0 (by omega) (by exact aI (by exact rfl) (aI (by exact rfl) tI)) (by exact aI (by exact rfl) tI) ?_
 rintro k hk
 have heb := Ea e l k (by omega) (by omega)
 refine cF ?_
 refine sc (fun hba => ?_) (fun hba => ?_)
 try simp only [br] at hba
 have hltk : k < (min l.length 60) := by first | omega | (simp_all; omega)
 have hltl : k < l.length := by omega
 have hwm := cT (f := fG) hltl
 refine bB ?_
 refine sT [1, 2, 4, 5, 6, 7, 18, 19, 20] [2, 4, 6] ?_
 refine rA ?_ (x := aY (k := k) (by decide) ia (by exact tI) (by exact rfl) (by exact bc (by rw [br]; omega) (by rw [List.getElem_take])) (by exact rfl))
 refine rA ?_ (x := lE [val _, val _, val _, sl .v _, sl .v _, val _, val _, val _, val _, sl .v _, val _, val _, val _] ln)
 refine rX ?_ (x := (bY (by decide) yb yc))
 refine rA ?_ (x := bg (ag := true) (vs := [val _, val _, val _, sl _ _, sl _ _, val _, val _, val _, val _, sl _ _, val _, val _, val _]) ln (by exact tI) (by exact rfl) (by exact nl rfl))
 refine aP ?_
 refine sO [(1, _), (2, _), (4, _), (5, _), (6, _), (7, _), (9, _), (18, _), (19, _), (20, _)] [(2, _), (4, _), (6, _), (9, (58, [val _, val _, val _, sl _ _, sl _ _, val _, val _, val _, val _, sl _ _, val _, val _, val _]))] ?_
 refine Br ?_
 refine rA ?_ (x := lD [val _, val _, val _, sl .v _, sl .v _, val _, val _, val _, val _, sl .v _, val _, val _, val _] ln)
 refine rA ?_ (x := cL [(true, [sl _ _, val _, val _, sl _ _, sl _ _, sl _ _, sl _ _, val _]), (true, [val _, val _, val _, sl _ _, sl _ _, val _, val _, val _, val _, sl _ _, val _, val _, val _])] [(true, [sl .v _, val _, val _, sl .v _, sl .v _, sl .v _, sl .v _, val _]), (true, [val _, val _, val _, sl .v _, sl .v _, val _, val _, val _, val _, sl .v _, val _, val _, val _])] WV (hs := by exact (ab4 (e := (cV e l k).1) (x := l[k]) (by omega) (by omega))))
 refine rA ?_ (x := tM)
 refine qu ?_
 refine jU ?_
 refine eZ ?_
 refine sO [(1, _), (2, _), (4, _), (5, _), (6, _), (7, _), (9, _), (10, _), (11, _), (18, _), (19, _), (20, _)] [(2, _), (4, _), (6, _), (9, _), (10, (32, [sl _ _, val _, val _, sl _ _, sl _ _, sl _ _, sl _ _, val _]))] ?_
 refine pH ?_
 refine aP ?_
 refine sO [(1, _), (2, _), (4, _), (5, _), (6, _), (7, _), (9, _), (10, _), (11, _), (18, _), (19, _), (20, _)] [(2, _), (4, _), (6, (32, [sl _ _, val _, val _, sl _ _, sl _ _, sl _ _, sl _ _, val _])), (9, _), (10, (32, [sl _ _, val _, val _, sl _ _, sl _ _, sl _ _, sl _ _, val _]))] ?_
 refine oG ?_
 refine sc (fun hbb => ?_) (fun hbb => ?_)
 have hy : (dq (cV e l k).1 l[k]).2 = true := by simpa using hbb
 refine sG [1, 2, 4, 5, 6, 7, 9, 10, 11, 18, 19, 20] [2, 4, 6, 9, 10] ?_
 refine cW ?_
 exact Jf
 have hy : ¬ (dq (cV e l k).1 l[k]).2 = true := by simpa using hbb
 refine bm ?_
 exact Jf
 try simp only [br] at hba
 have hend : k = (min l.length 60) := by first | omega | (simp_all; omega)
 refine bG ?_
 refine sT [1, 2, 4, 5, 6, 7, 18, 19, 20] [2, 4, 6] ?_
 exact Jg
def ab7 {p1 p2 p5 p6 p7 p8 p9 p11 p12 p13 p14 p16 p17 p18 p20 p21 p22 : Fl} {e : aD} {l : List cC}  (hb : bi e ≤ 68700000000) (hx : kH l ≤ 68700000000) : aB prog 47 [(true, [sl .v (e.Store.act.map (aC p1 p2)), val (vI e.Store.Now), val (vI e.acy), sl .v (e.Order.map ak), sl .v (e.acu.map (aQ p5 p6 p7 p8 p9)), sl .v (e.Done.map (aX p11 p12 p13 p14)), sl .v (e.acG.map (aZ p16 p17 p18)), val (vI e.Steps)]), (false, [sl .v (l.map (hP p20 p21 p22))])] (aA [(true, [sl bo ((fO e l).1.Store.act.map (aC aS aa)), val (vI (fO e l).1.Store.Now), val (vI (fO e l).1.acy), sl aa ((fO e l).1.Order.map ak), sl bS ((fO e l).1.acu.map (aQ aw aa aa az aa)), sl bJ ((fO e l).1.Done.map (aX aw aa az aa)), sl bP ((fO e l).1.acG.map (aZ aa aa aa)), val (vI (fO e l).1.Steps)]), (false, [val (vI (fO e l).2)])]) := by
 refine sF func47 fun h0 w0 Fz0 => ?_
 refine sn 0 0 fun hl0_0 => ?_
 refine sn 0 3 fun hl0_3 => ?_
 refine sn 0 4 fun hl0_4 => ?_
 refine sn 0 5 fun hl0_5 => ?_
 refine sn 0 6 fun hl0_6 => ?_
 refine sj 1 fun hl1 => ?_
 have hbu := hb
 simp only [bi, da, dQ, dP] at hbu
 have hbx := hx
 simp only [kH] at hbx
 refine py ?_
 refine rK ?_
 refine sT [1, 2, 4, 5] [2, 4] ?_
 refine tU ?_
 refine jU ?_
 refine wK ?_
 refine bf ?_
 refine fh ?_
 refine sS [1, 2, 4, 5, 6, 7] [2, 4, 6] ?_
 refine cH ?_
 refine sP [1, 2, 4, 5, 6, 7, 8] [2, 4, 6] ?_
 refine sL [1, 2, 4, 5, 6] [2, 4] (fun k : Nat => k ≤ (min l.length 60)) (fun k : Nat => [(7, RV.int (cV e l k).2), (8, RV.int (k : Int))]) (fun k : Nat => [(6, (32, [sl bo ((cV e l k).1.Store.act.map (aC aS aa)), val (vI (cV e l k).1.Store.Now), val (vI (cV e l k).1.acy), sl aa ((cV e l k).1.Order.map ak), sl bS ((cV e l k).1.acu.map (aQ aw aa aa az aa)), sl bJ ((cV e l k).1.Done.map (aX aw aa az aa)), sl bP ((cV e l k).1.acG.map (aZ aa aa aa)), val (vI (cV e l k).1.Steps)]))]) (fun k : Nat => (min l.length 60) - k) 0 (by omega) (by exact aI (by exact rfl) (aI (by exact rfl) tI)) (by exact aI (by exact rfl) tI) ?_
 rintro k hk
 have heb := Ea e l k (by omega) (by omega)
 refine cP ?_
 refine rA ?_ (x := lN ia)
 refine rA ?_ (x := cu)
 refine rM ?_
 refine cx 17 (fun ga sga => ?_) (fun ga sga => ?_)
 refine uw ?_
 refine rA ?_ (x := aT ga)
 refine sc (fun hba => ?_) (fun hba => ?_)
 try simp only [br] at hba
 have hltk : k < (min l.length 60) := by first | omega | (simp_all; omega)
 have hltl : k < l.length := by omega
 have hwm := cT (f := fG) hltl
 refine cO ?_
 refine sQ [1, 2, 4, 5, 6, 7, 8] [2, 4, 6] ?_
 refine ES (c := 5) (AI := [(9, ⟨[], [], [(9, some (RV.ptr 9 0))], [(9, some (32, [sl bo [], val (.int .i64 0), val (.int .i64 0), sl aa [], sl bS [], sl bJ [], sl bP [], val (.int .i64 0)]))], some 9⟩)]) dl rfl rfl rfl rfl (by kernel_rfl) (fun j L h o ho => by have h := go h; simp only [jQ, List.not_mem_nil, or_false, Prod.mk.injEq] at h; obtain ⟨rfl, rfl⟩ := h; (· cases (show some ⟨some 9, .alloc 32, _, _, _, none⟩ = some o from ho); apply ay.of rfl; exact bY (d := 9) (by decide) lp ls)) (fun j L h d hd => by have h := go h; simp only [jQ, List.not_mem_nil, or_false, Prod.mk.injEq] at h; obtain ⟨rfl, rfl⟩ := h; (· cases (show some _ = some d from hd); exact cS.of_ rfl)) ?_
 refine dX 0 ?_ (x := (eW (qs := [sl .v _, val _, val _, sl .v _, sl .v _, sl .v _, sl .v _, val _]) (by decide) bU (fun h => nomatch h) (by exact nl rfl) (by exact (aH (ap (ap (aH (aH (aH (aH (ap am.nil))))))))) (by exact lq)))
 refine dX 0 ?_ (x := (be (r' := RV.sv false [sl .v _]) (.inl rfl) (by decide) (by exact Cp.sv (aH am.nil) (an.cons (bor_sl _) an.nil))))
 refine dX 0 ?_ (x := (be (.inl rfl) (by decide) (by exact Cp.sc)))
 refine dX 6 ?_ (x := (aY (by decide) ia (by exact tI) (by exact rfl) (by exact bc (by omega) rfl) (by exact rfl)))
 refine dX 14 ?_ (x := (nA (qs := [val _, val _, val _, sl .v _, sl .v _, val _, val _, val _, val _, sl .v _, val _, val _, val _]) (by decide) ln (fun h => nomatch h) (by exact nl rfl) (by exact (ap (ap (ap (aH (aH (ap (ap (ap (ap (aH (ap (ap (ap am.nil)))))))))))))) (by exact lq)))
 refine EW (G := 2000) (qs := [(true, [sl _ _, val _, val _, sl _ _, sl _ _, sl _ _, sl _ _, val _]), (true, [val _, val _, val _, sl _ _, sl _ _, val _, val _, val _, val _, sl _ _, val _, val _, val _])]) (as_ := [(true, [sl .v _, val _, val _, sl .v _, sl .v _, sl .v _, sl .v _, val _]), (true, [val _, val _, val _, sl .v _, sl .v _, val _, val _, val _, val _, sl .v _, val _, val _, val _])]) (by decide) Xa (by exact ⟨rfl, rfl, ⟨⟩⟩) (by exact (aI (by exact tI) (aI (by exact tI) tI))) (by exact (aI (aI rfl (aH (ap (ap (aH (aH (aH (aH (ap am.nil))))))))) (aI (aI rfl (ap (ap (ap (aH (aH (ap (ap (ap (ap (aH (ap (ap (ap am.nil)))))))))))))) tI))) (by exact (ab5 (e := (cV e l k).1) (x := l[k]) (by omega) (by omega))) (by kernel_rfl) (by kernel_rfl) fun uss hU0 => ?_
 obtain ⟨us0, r0, rfl, hl0, hR0, hU1⟩ := jr.cons hU0
 obtain ⟨u3_0_0, u3_0_1, u3_0_2, u3_0_3, u3_0_4, u3_0_5, u3_0_6, u3_0_7, rfl⟩ := xQ hl0
 obtain rfl := tx hR0 (j := 1) rfl rfl
 obtain rfl := tx hR0 (j := 2) rfl rfl
 obtain rfl := tx hR0 (j := 7) rfl rfl
 obtain ⟨us1, r1, rfl, hl1, hR1, hU2⟩ := jr.cons hU1
 obtain ⟨u3_1_0, rfl⟩ := uL hl1
 obtain rfl := tx hR1 (j := 0) rfl rfl
 obtain rfl := jr.nil hU2
 clear hR0 hU0 hR1 hU1 hU2
 refine cb.stepC 63 (by exact ⟨rfl, ⟨⟩⟩) (by exact tI) (ay.of rfl (vo (.inl rfl) (by decide))) aG (by kernel_rfl) (by intro L' h; exact nomatch (show (none : Option aF) = some L' from h)) ?_
 refine cb.stepC 127 (by exact ⟨rfl, ⟨⟩⟩) (by exact tI) (ay.of rfl (pk (cs := [val _, val _, val _, val _, val _, val _, val _, val _]) (by decide) (by exact rfl) (by exact lq))) aG (by kernel_rfl) (by intro L' h; exact nomatch (show (none : Option aF) = some L' from h)) ?_
 refine cb.stepC 127 (by exact ⟨rfl, ⟨⟩⟩) (by exact tI) (ay.of rfl (pk (cs := [val _]) (by decide) (by exact rfl) (by exact (an.cons (bor_val _) an.nil)))) aG (by kernel_rfl) (by intro L' h; exact nomatch (show (none : Option aF) = some L' from h)) ?_
 refine cb.stepC 0 (by exact tI) (by exact tI) (ay.of rfl (bY (by decide) lp ls)) (pd (cS.wr (cS.app (cS.app (cS.app (cS.app (cS.app (cS.of_ rfl) rfl) rfl) rfl) rfl) rfl) rfl)) (by kernel_rfl) (by intro L' h; exact Option.some.inj (show some _ = some L' from h)) ?_
 refine cb.stepC 767 (by exact ⟨rfl, rfl, ⟨⟩⟩) (by exact ⟨rfl, ⟨⟩⟩) (ay.of rfl (bg (ag := true) (vs := [val _, val _, val _, val _, val _, val _, val _, val _]) bU (by exact tI) (by exact rfl) (by exact nl rfl))) aG (by kernel_rfl) (by intro L' h; exact nomatch (show (none : Option aF) = some L' from h)) ?_
 refine cb.stepC 2047 (by exact ⟨rfl, ⟨⟩⟩) (by exact tI) (ay.of rfl (be (.inr rfl) (by decide) (by exact Cp.sc))) aG (by kernel_rfl) (by intro L' h; exact nomatch (show (none : Option aF) = some L' from h)) ?_
 refine EJ (d := 9) (G := 2000) (by exact rfl) (by exact (Nm.val (Nm.val (Nm.val (Nm.val (Nm.val (Nm.val (Nm.val (Nm.val Nm.nil))))))))) (by exact rfl) ?_
 refine vE (s := 10) (G := 2001) (by exact rfl) (by exact (Nm.val Nm.nil)) rfl (by decide) (by exact rfl) ?_
 refine aP ?_
 refine sO [(1, _), (2, _), (4, _), (5, _), (6, _), (7, _), (8, _), (9, _), (10, _)] [(2, _), (4, _), (6, _), (9, (32, [sl _ _, val _, val _, sl _ _, sl _ _, sl _ _, sl _ _, val _]))] ?_
 refine pH ?_
 refine aP ?_
 refine sO [(1, _), (2, _), (4, _), (5, _), (6, _), (7, _), (8, _), (9, _), (10, _)] [(2, _), (4, _), (6, (32, [sl _ _, val _, val _, sl _ _, sl _ _, sl _ _, sl _ _, val _])), (9, (32, [sl _ _, val _, val _, sl _ _, sl _ _, sl _ _, sl _ _, val _]))] ?_
 refine oG ?_
 refine sc (fun hbb => ?_) (fun hbb => ?_)
 have hy : (dq (cV e l k).1 l[k]).2 = true := by simpa using hbb
 refine sG [1, 2, 4, 5, 6, 7, 8, 9, 10] [2, 4, 6, 9] ?_
 refine cW ?_
 exact Jh
 have hy : ¬ (dq (cV e l k).1 l[k]).2 = true := by simpa using hbb
 refine bm ?_
 exact Jh
 try simp only [br] at hba
 exact Ji
 refine pL ?_
 try simp only [br] at hb_
 exact Ji
end Go.Proofs.YtmekkgdboplbjaaGreat
