/- What functions of the program compute. No condition. -/
import Derived.Test.YtmekkgdboplbjaaGreatDoorCJ1
import Derived.Test.YtmekkgdboplbjaaGreatDoorCK1
import Derived.Test.YtmekkgdboplbjaaGreatDoorCY0
import Derived.Test.YtmekkgdboplbjaaGreatDoorCG1
import Derived.Test.YtmekkgdboplbjaaGreatDoorCI1
import Derived.Test.YtmekkgdboplbjaaGreatDoorCM1
set_option linter.all false
namespace Go.Proofs.YtmekkgdboplbjaaGreatDoor
open Go Go.RowKit M PV
set_option maxRecDepth 10000
attribute [local irreducible] PV.Lcl PV.LclR RV.Lcl
set_option maxHeartbeats 8000000
def Nj {p1 p2 p5 p6 p7 p8 p9 p11 p12 p13 p14 p16 p17 p18 : Fl} {e : ay} {u : ZI}  (hb : bB e ≤ 68718000000) (hbu0 : oO u ≤ 68718000000) : aN Tryz.prog 223 [(true, [sl .v (e.Store.ZE.map (aO p1 p2)), val (vI e.Store.Now), val (vI e.ZJ), sl .v (e.Order.map an), sl .v (e.ZF.map (bq p5 p6 p7 p8 p9)), sl .v (e.Done.map (bN p11 p12 p13 p14)), sl .v (e.ZR.map (bF p16 p17 p18)), val (vI e.Steps)]), (true, [val (vI u.Kind), val (vI u.Row.Id), sl .v (u.Row.Values.map an), val (vI u.Field), val (vI u.Value)])] (aF [(true, [sl bQ ((eW e u).1.Store.ZE.map (aO be ae)), val (vI (eW e u).1.Store.Now), val (vI (eW e u).1.ZJ), sl ae ((eW e u).1.Order.map an), sl dr ((eW e u).1.ZF.map (bq aP ae ae aR ae)), sl cQ ((eW e u).1.Done.map (bN aP ae aR ae)), sl cH ((eW e u).1.ZR.map (bF ae ae ae)), val (vI (eW e u).1.Steps)]), (false, [val (.bool (eW e u).2)])]) := by
 refine qN (largs := fun L => [(true, [sl (.lo L) (e.Store.ZE.map (aO (.lo L) (.lo L))), val (vI e.Store.Now), val (vI e.ZJ), sl (.lo L) (e.Order.map an), sl (.lo L) (e.ZF.map (bq (.lo L) (.lo L) (.lo L) (.lo L) (.lo L))), sl (.lo L) (e.Done.map (bN (.lo L) (.lo L) (.lo L) (.lo L))), sl (.lo L) (e.ZR.map (bF (.lo L) (.lo L) (.lo L))), val (vI e.Steps)]), (true, [val (vI u.Kind), val (vI u.Row.Id), sl (.lo L) (u.Row.Values.map an), val (vI u.Field), val (vI u.Value)])]) (rs := [(true, [sl bQ ((eW e u).1.Store.ZE.map (aO be ae)), val (vI (eW e u).1.Store.Now), val (vI (eW e u).1.ZJ), sl ae ((eW e u).1.Order.map an), sl dr ((eW e u).1.ZF.map (bq aP ae ae aR ae)), sl cQ ((eW e u).1.Done.map (bN aP ae aR ae)), sl cH ((eW e u).1.ZR.map (bF ae ae ae)), val (vI (eW e u).1.Steps)]), (false, [val (.bool (eW e u).2)])]) Tryz.func223 rfl (nl rfl) (fun L => by exact (aI (aI rfl (aj.cons (bn (fun _ => nl rfl) (fun _ => (aj.cons (bn (fun _ => nl rfl) (fun _ => (aj.cons aC (aj.cons (bn (fun _ => nl rfl) (fun _ => (aj.cons aC aj.nil))) (aj.cons aC (aj.cons aC aj.nil)))))) aj.nil))) (aj.cons aC (aj.cons aC (aj.cons (bn (fun _ => nl rfl) (fun _ => (aj.cons aC aj.nil))) (aj.cons (bn (fun _ => nl rfl) (fun _ => (aj.cons aC (aj.cons aC (aj.cons (bn (fun _ => nl rfl) (fun _ => (aj.cons aC (aj.cons aC (aj.cons aC aj.nil))))) (aj.cons (bn (fun _ => nl rfl) (fun _ => (aj.cons aC aj.nil))) (aj.cons aC (aj.cons (bn (fun _ => nl rfl) (fun _ => (aj.cons aC aj.nil))) (aj.cons aC (aj.cons aC (aj.cons aC (aj.cons (bn (fun _ => nl rfl) (fun _ => (aj.cons aC (aj.cons (bn (fun _ => nl rfl) (fun _ => (aj.cons aC aj.nil))) aj.nil)))) aj.nil)))))))))))) (aj.cons (bn (fun _ => nl rfl) (fun _ => (aj.cons aC (aj.cons aC (aj.cons (bn (fun _ => nl rfl) (fun _ => (aj.cons aC (aj.cons aC (aj.cons aC aj.nil))))) (aj.cons (bn (fun _ => nl rfl) (fun _ => (aj.cons aC aj.nil))) (aj.cons aC (aj.cons aC (aj.cons (bn (fun _ => nl rfl) (fun _ => (aj.cons aC (aj.cons (bn (fun _ => nl rfl) (fun _ => (aj.cons aC aj.nil))) aj.nil)))) aj.nil))))))))) (aj.cons (bn (fun _ => nl rfl) (fun _ => (aj.cons aC (aj.cons aC (aj.cons (bn (fun _ => nl rfl) (fun _ => (aj.cons aC aj.nil))) (aj.cons (bn (fun _ => nl rfl) (fun _ => (aj.cons aC aj.nil))) (aj.cons (bn (fun _ => nl rfl) (fun _ => (aj.cons aC aj.nil))) aj.nil))))))) (aj.cons aC aj.nil))))))))) (aI (aI rfl (aj.cons aC (aj.cons aC (aj.cons (bn (fun _ => nl rfl) (fun _ => (aj.cons aC aj.nil))) (aj.cons aC (aj.cons aC aj.nil)))))) tI))) (fun L => by exact lq) ?_
 intro w0 Fz0
 refine sn 0 0 fun hl0_0 => ?_
 refine sn 0 3 fun hl0_3 => ?_
 refine sn 0 4 fun hl0_4 => ?_
 refine sn 0 5 fun hl0_5 => ?_
 refine sn 0 6 fun hl0_6 => ?_
 refine sn 1 2 fun hl1_2 => ?_
 have hbu := hb
 simp only [bB, ix, mC, hZ] at hbu
 have haw := MC e.Store u
 have hww := MD e u
 refine zJ ?_
 refine rX ?_ (x := (fY (ag := true) (cs := [val _, val _, sl (.lo _) _, val _, val _]) (by decide) (by exact tI)))
 refine wd ?_
 refine sO [(2, _), (3, _), (4, _), (5, _)] [(2, (46, [sl (.lo _) _, val _, val _, sl (.lo _) _, sl (.lo _) _, sl (.lo _) _, sl (.lo _) _, val _])), (3, (29, [val _, val _, sl (.lo _) _, val _, val _])), (4, (46, [sl _ _, val _, val _, sl _ _, sl _ _, sl _ _, sl _ _, val _]))] ?_
 refine bi ?_
 refine zv ?_
 refine oE ?_
 refine dO ?_
 refine sO [(2, _), (3, _), (4, _), (5, _), (6, _)] [(2, _), (3, _), (4, _), (6, (46, [sl _ _, val _, val _, sl _ _, sl _ _, sl _ _, sl _ _, val _]))] ?_
 refine bi ?_
 refine zu ?_
 refine rA ?_ (x := nT)
 refine sc (fun hba => ?_) (fun hba => ?_)
 have hno : (aT e && (eh e.Store u).2) = false := by first | (simp_all; done) | (cases h1_ : aT e <;> cases h2_ : (eh e.Store u).2 <;> simp_all)
 refine sS [2, 3, 4, 5, 6] [2, 3, 4, 6] ?_
 exact GO
 refine bc ?_
 refine sS [2, 3, 4, 5, 6] [2, 3, 4, 6] ?_
 refine rA ?_ (x := lF fB)
 refine rA ?_ (x := lD [sl (.lo _) _, val _] cF)
 refine rA ?_ (x := lD [val _, val _, sl (.lo _) _, val _, val _] qj)
 refine rA ?_ (x := cL [(true, [sl (.lo _) _, val _]), (true, [val _, val _, sl (.lo _) _, val _, val _])] [(true, [sl .v _, val _]), (true, [val _, val _, sl .v _, val _, val _])] KW (hs := by exact (LM (by omega) (by omega))))
 refine rA ?_ (x := tM)
 refine vz ?_
 refine mx ?_
 refine rS ?_
 refine dO ?_
 refine sO [(2, _), (3, _), (4, _), (5, _), (6, _), (7, _), (8, _)] [(2, _), (3, _), (4, _), (6, _), (7, (41, [sl _ _, val _]))] ?_
 refine ku ?_
 refine rA ?_ (x := nT)
 refine sc (fun hbb => ?_) (fun hbb => ?_)
 have hno : (aT e && (eh e.Store u).2) = false := by first | (simp_all; done) | (cases h1_ : aT e <;> cases h2_ : (eh e.Store u).2 <;> simp_all)
 refine sS [2, 3, 4, 5, 6, 7, 8] [2, 3, 4, 6, 7] ?_
 exact GO
 have hok : (aT e && (eh e.Store u).2) = true := by first | (simp_all; done) | (cases h1_ : aT e <;> cases h2_ : (eh e.Store u).2 <;> simp_all)
 refine bc ?_
 refine sS [2, 3, 4, 5, 6, 7, 8] [2, 3, 4, 6, 7] ?_
 refine rA ?_ (x := dH (ms := [sl _ _, val _]) (qs := [any, val _]) (by decide) cF (fun h => nomatch h) (by exact nl rfl) (by exact rfl) (by exact (ao.cons PV.to_any (aq ao.nil))) (by exact (ab.cons (bor_any) (ab.cons (bor_val _) ab.nil))))
 refine Jf ?_
 refine ba ?_
 refine sO [(2, _), (3, _), (4, _), (5, _), (6, _), (7, _), (8, _)] [(2, _), (3, _), (4, _), (6, (46, [sl _ _, val _, val _, sl _ _, sl _ _, sl _ _, sl _ _, val _])), (7, (41, [any, val _]))] ?_
 refine qM ?_
 refine wO [(2, _), (3, _), (4, _), (5, _), (6, _), (7, _), (8, _)] [(2, _), (3, _), (4, _), (6, _), (7, _)] ?_
 refine sI (bx := 6) (L := (Lw w0.heap.size)) (qs := []) (as_ := []) (by decide) Bs rfl (by exact rfl) (by exact rfl) (by exact tI) (by exact tI) (by decide) (by exact tI) (by exact (Cz (e := qD e (eh e.Store u).1) (by omega))) (fun x hx => hx) (by exact lq) (by exact lq) ?_
 refine sw ?_
 refine ba ?_
 refine sO [(2, _), (3, _), (4, _), (5, _), (6, _), (7, _), (8, _)] [(2, _), (3, _), (4, _), (6, (46, [sl _ _, val _, val _, sl _ _, sl _ _, sl _ _, sl _ _, val _])), (7, _)] ?_
 refine bi ?_
 refine oM ?_
 exact (bj 4 (bj _ (aI (by exact rfl) (aI (by refine dW ?_; rw [Cs hok]; exact rfl) (aI co (aI (fun h => nomatch h) (aI (by refine gZ ?_; rw [Cs hok]) tI)))))))
end Go.Proofs.YtmekkgdboplbjaaGreatDoor
