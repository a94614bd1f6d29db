/- What functions of the program compute. No condition. -/
import Derived.Test.YtmekkgdboplbjaaGreatCA1
import Derived.Test.YtmekkgdboplbjaaGreatCB1
import Derived.Test.YtmekkgdboplbjaaGreatCC1
import Derived.Test.YtmekkgdboplbjaaGreatCY0
import Derived.Test.YtmekkgdboplbjaaGreatCE1
import Derived.Test.YtmekkgdboplbjaaGreatCG1
set_option linter.all false
namespace Go.Proofs.YtmekkgdboplbjaaGreat
open Go Go.RowKit M PV Tryz
set_option maxRecDepth 10000
attribute [local irreducible] PV.Lcl PV.LclR RV.Lcl
set_option maxHeartbeats 8000000
def adU {p1 p2 p5 p6 p7 p8 p9 p11 p12 p13 p14 p16 p17 p18 : Fl} {e : aA} {n : Int}  (hb : bp e ≤ 68718000000) : aN prog 12 [(true, [sl .v (e.Store.aey.map (aG p1 p2)), val (vI e.Store.Now), val (vI e.aeD), sl .v (e.Order.map am), sl .v (e.aez.map (aT p5 p6 p7 p8 p9)), sl .v (e.Done.map (bn p11 p12 p13 p14)), sl .v (e.aeL.map (bl p16 p17 p18)), val (vI e.Steps)]), (false, [val (vI n)])] (aJ [(true, [sl bz ((gB e n).Store.aey.map (aG aV ab)), val (vI (gB e n).Store.Now), val (vI (gB e n).aeD), sl ab ((gB e n).Order.map am), sl ce ((gB e n).aez.map (aT aD ab ab aE ab)), sl bT ((gB e n).Done.map (bn aD ab aE ab)), sl bY ((gB e n).aeL.map (bl ab ab ab)), val (vI (gB e n).Steps)])]) := by
 refine sF func12 fun h0 w0 Fz0 => ?_
 refine sn 0 0 fun hl0_0 => ?_
 refine sn 0 3 fun hl0_3 => ?_
 refine sn 0 4 fun hl0_4 => ?_
 refine sn 0 5 fun hl0_5 => ?_
 refine sn 0 6 fun hl0_6 => ?_
 have hbu := hb
 simp only [bp, fB, fC, fV] at hbu
 refine vD ?_
 refine sT [1, 2, 4] [2, 4] ?_
 refine Cz ?_
 refine tK ?_
 refine OZ ?_
 refine ca ?_
 refine Mx ?_
 rintro k hk
 have hrw := AF e k
 have hrl := Gh n
 refine tG ?_
 refine rM ?_
 refine cx 12 (fun ga sga => ?_) (fun ga sga => ?_)
 refine vJ ?_
 refine rA ?_ (x := aO ga)
 refine sc ?_ ?_ <;> intro hba
 have hlt : k < kt n := by unfold kt; first | omega | (simp_all; omega)
 refine bi ?_
 refine sH [1, 2, 4, 5, 6] [2, 4, 5] ?_
 refine rA ?_ (x := lD [sl .v _, val _, val _, sl .v _, sl .v _, sl .v _, sl .v _, val _] bU)
 refine rA ?_ (x := cL [(true, [sl _ _, val _, val _, sl _ _, sl _ _, sl _ _, sl _ _, val _])] [(true, [sl .v _, val _, val _, sl .v _, sl .v _, sl .v _, sl .v _, val _])] Zf (hs := by exact (ado (e := iG e k) (by omega))))
 refine rA ?_ (x := tM)
 refine zss ?_
 refine sO [(1, _), (2, _), (4, _), (5, _), (6, _)] [(2, _), (4, _), (5, (32, [sl _ _, val _, val _, sl _ _, sl _ _, sl _ _, sl _ _, val _]))] ?_
 exact LG
 exact Cl
 exact LH
def adV {p1 p2 p5 p6 p7 p8 p9 p11 p12 p13 p14 p16 p17 p18 : Fl} {e : aA} {n : Int}  (hb : bp e ≤ 68718000000) : aN prog 90 [(true, [sl .v (e.Store.aey.map (aG p1 p2)), val (vI e.Store.Now), val (vI e.aeD), sl .v (e.Order.map am), sl .v (e.aez.map (aT p5 p6 p7 p8 p9)), sl .v (e.Done.map (bn p11 p12 p13 p14)), sl .v (e.aeL.map (bl p16 p17 p18)), val (vI e.Steps)]), (false, [val (vI n)])] (aJ [(true, [sl bz ((gB e n).Store.aey.map (aG aV ab)), val (vI (gB e n).Store.Now), val (vI (gB e n).aeD), sl ab ((gB e n).Order.map am), sl ce ((gB e n).aez.map (aT aD ab ab aE ab)), sl bT ((gB e n).Done.map (bn aD ab aE ab)), sl bY ((gB e n).aeL.map (bl ab ab ab)), val (vI (gB e n).Steps)])]) := by
 refine sF func90 fun h0 w0 Fz0 => ?_
 refine sn 0 0 fun hl0_0 => ?_
 refine sn 0 3 fun hl0_3 => ?_
 refine sn 0 4 fun hl0_4 => ?_
 refine sn 0 5 fun hl0_5 => ?_
 refine sn 0 6 fun hl0_6 => ?_
 have hbu := hb
 simp only [bp, fB, fC, fV] at hbu
 refine vD ?_
 refine sT [1, 2, 4] [2, 4] ?_
 refine ym ?_
 refine tK ?_
 refine OZ ?_
 refine ca ?_
 refine Mx ?_
 rintro k hk
 have hrw := AF e k
 have hrl := Gh n
 refine tG ?_
 refine rM ?_
 refine cx 14 (fun ga sga => ?_) (fun ga sga => ?_)
 refine vJ ?_
 refine rA ?_ (x := aO ga)
 refine sc ?_ ?_ <;> intro hba
 have hlt : k < kt n := by unfold kt; first | omega | (simp_all; omega)
 refine bi ?_
 refine sT [1, 2, 4, 5, 6] [2, 4, 5] ?_
 refine rA ?_ (x := lD [sl .v _, val _, val _, sl .v _, sl .v _, sl .v _, sl .v _, val _] bU)
 refine rA ?_ (x := cL [(true, [sl _ _, val _, val _, sl _ _, sl _ _, sl _ _, sl _ _, val _])] [(true, [sl .v _, val _, val _, sl .v _, sl .v _, sl .v _, sl .v _, val _])] Zj (hs := by exact (adM (e := iG e k) (by omega))))
 refine rA ?_ (x := tM)
 refine yk ?_
 refine ob ?_
 refine rS ?_
 refine sO [(1, _), (2, _), (4, _), (5, _), (6, _), (7, _), (8, _)] [(2, _), (4, _), (5, _), (7, (32, [sl _ _, val _, val _, sl _ _, sl _ _, sl _ _, sl _ _, val _]))] ?_
 refine tB ?_
 refine sO [(1, _), (2, _), (4, _), (5, _), (6, _), (7, _), (8, _)] [(2, _), (4, _), (5, (32, [sl _ _, val _, val _, sl _ _, sl _ _, sl _ _, sl _ _, val _])), (7, (32, [sl _ _, val _, val _, sl _ _, sl _ _, sl _ _, sl _ _, val _]))] ?_
 exact LG
 exact Cl
 exact LH
def adW {p1 p2 p5 p6 p7 p8 p9 p11 p12 p13 p14 p16 p17 p18 : Fl} {e : aA} {u : aeC}  (hb : bp e ≤ 68718000000) (hbu0 : lp u ≤ 68718000000) : aN prog 85 [(true, [sl .v (e.Store.aey.map (aG p1 p2)), val (vI e.Store.Now), val (vI e.aeD), sl .v (e.Order.map am), sl .v (e.aez.map (aT p5 p6 p7 p8 p9)), sl .v (e.Done.map (bn p11 p12 p13 p14)), sl .v (e.aeL.map (bl p16 p17 p18)), val (vI e.Steps)]), (true, [val (vI u.Kind), val (vI u.Row.Id), sl .v (u.Row.Values.map am), val (vI u.Field), val (vI u.Value)])] (aJ [(true, [sl bz ((cD e u).1.Store.aey.map (aG aV ab)), val (vI (cD e u).1.Store.Now), val (vI (cD e u).1.aeD), sl ab ((cD e u).1.Order.map am), sl ce ((cD e u).1.aez.map (aT aD ab ab aE ab)), sl bT ((cD e u).1.Done.map (bn aD ab aE ab)), sl bY ((cD e u).1.aeL.map (bl ab ab ab)), val (vI (cD e u).1.Steps)]), (false, [val (.bool (cD e u).2)])]) := by
 refine mq (largs := fun L => [(true, [sl (.lo L) (e.Store.aey.map (aG (.lo L) (.lo L))), val (vI e.Store.Now), val (vI e.aeD), sl (.lo L) (e.Order.map am), sl (.lo L) (e.aez.map (aT (.lo L) (.lo L) (.lo L) (.lo L) (.lo L))), sl (.lo L) (e.Done.map (bn (.lo L) (.lo L) (.lo L) (.lo L))), sl (.lo L) (e.aeL.map (bl (.lo L) (.lo L) (.lo L))), val (vI e.Steps)]), (true, [val (vI u.Kind), val (vI u.Row.Id), sl (.lo L) (u.Row.Values.map am), val (vI u.Field), val (vI u.Value)])]) (rs := [(true, [sl bz ((cD e u).1.Store.aey.map (aG aV ab)), val (vI (cD e u).1.Store.Now), val (vI (cD e u).1.aeD), sl ab ((cD e u).1.Order.map am), sl ce ((cD e u).1.aez.map (aT aD ab ab aE ab)), sl bT ((cD e u).1.Done.map (bn aD ab aE ab)), sl bY ((cD e u).1.aeL.map (bl ab ab ab)), val (vI (cD e u).1.Steps)]), (false, [val (.bool (cD e u).2)])]) func85 rfl (nl rfl) (fun L => by exact (aI (aI rfl (ae.cons (aP (fun _ => nl rfl) (fun _ => (ae.cons (aP (fun _ => nl rfl) (fun _ => (ae.cons av (ae.cons (aP (fun _ => nl rfl) (fun _ => (ae.cons av ae.nil))) (ae.cons av (ae.cons av ae.nil)))))) ae.nil))) (ae.cons av (ae.cons av (ae.cons (aP (fun _ => nl rfl) (fun _ => (ae.cons av ae.nil))) (ae.cons (aP (fun _ => nl rfl) (fun _ => (ae.cons av (ae.cons av (ae.cons (aP (fun _ => nl rfl) (fun _ => (ae.cons av (ae.cons av (ae.cons av ae.nil))))) (ae.cons (aP (fun _ => nl rfl) (fun _ => (ae.cons av ae.nil))) (ae.cons av (ae.cons (aP (fun _ => nl rfl) (fun _ => (ae.cons av ae.nil))) (ae.cons av (ae.cons av (ae.cons av (ae.cons (aP (fun _ => nl rfl) (fun _ => (ae.cons av (ae.cons (aP (fun _ => nl rfl) (fun _ => (ae.cons av ae.nil))) ae.nil)))) ae.nil)))))))))))) (ae.cons (aP (fun _ => nl rfl) (fun _ => (ae.cons av (ae.cons av (ae.cons (aP (fun _ => nl rfl) (fun _ => (ae.cons av (ae.cons av (ae.cons av ae.nil))))) (ae.cons (aP (fun _ => nl rfl) (fun _ => (ae.cons av ae.nil))) (ae.cons av (ae.cons av (ae.cons (aP (fun _ => nl rfl) (fun _ => (ae.cons av (ae.cons (aP (fun _ => nl rfl) (fun _ => (ae.cons av ae.nil))) ae.nil)))) ae.nil))))))))) (ae.cons (aP (fun _ => nl rfl) (fun _ => (ae.cons av (ae.cons av (ae.cons (aP (fun _ => nl rfl) (fun _ => (ae.cons av ae.nil))) (ae.cons (aP (fun _ => nl rfl) (fun _ => (ae.cons av ae.nil))) (ae.cons (aP (fun _ => nl rfl) (fun _ => (ae.cons av ae.nil))) ae.nil))))))) (ae.cons av ae.nil))))))))) (aI (aI rfl (ae.cons av (ae.cons av (ae.cons (aP (fun _ => nl rfl) (fun _ => (ae.cons av ae.nil))) (ae.cons av (ae.cons av ae.nil)))))) tI))) (fun L => by exact lq) ?_
 intro w0 Fz0
 refine sn 0 0 fun hl0_0 => ?_
 refine sn 0 3 fun hl0_3 => ?_
 refine sn 0 4 fun hl0_4 => ?_
 refine sn 0 5 fun hl0_5 => ?_
 refine sn 0 6 fun hl0_6 => ?_
 refine sn 1 2 fun hl1_2 => ?_
 have hbu := hb
 simp only [bp, fB, fC, fV] at hbu
 have haw := Gp e.Store u
 have hww := Gq e u
 refine Px ?_
 refine Nj ?_
 refine CG ?_
 refine ob ?_
 refine be ?_
 refine OK ?_
 refine Do ?_
 refine rA ?_ (x := lD [val _, val _, sl (.lo _) _, val _, val _] ma)
 refine rA ?_ (x := cL [(true, [sl (.lo _) _, val _]), (true, [val _, val _, sl (.lo _) _, val _, val _])] [(true, [sl .v _, val _]), (true, [val _, val _, sl .v _, val _, val _])] Yu (hs := by exact (adG (by omega) (by omega))))
 refine wj ?_
 refine mw ?_
 refine rS ?_
 refine Pq ?_
 refine og ?_
 refine CH ?_
 refine cx 21 (fun ga sga => ?_) (fun ga sga => ?_)
 refine mE ?_
 exact Cm
 refine rB ga ?_ (x := sM)
 refine lO ?_
 refine sc ?_ ?_ <;> intro hba
 exact Cm
 have hok : (aX e && (cQ e.Store u).2) = true := by first | (simp_all; done) | (cases h1_ : aX e <;> cases h2_ : (cQ e.Store u).2 <;> simp_all)
 refine bb ?_
 refine Nb ?_
 refine yy ?_
 refine be ?_
 refine NU ?_
 refine wA ?_ (x := cP (ms := [sl _ _, val _, val _, sl _ _, sl _ _, sl _ _, sl _ _, val _]) (qs := [any, val _, val _, any, any, any, any, val _]) (by decide) bU (fun h => nomatch h) (by exact nl rfl) (by exact rfl) (by exact (ao.cons PV.to_any (ak (ak (ao.cons PV.to_any (ao.cons PV.to_any (ao.cons PV.to_any (ao.cons PV.to_any (ak ao.nil))))))))) (by exact lq))
 refine wO [(2, _), (3, _), (4, _), (5, _), (6, _), (7, _), (8, _), (28, _)] [(2, _), (3, _), (4, _), (6, (32, [any, val _, val _, any, any, any, any, val _])), (7, _)] ?_
 refine Bx (L := (Lw w0.heap.size)) (qs := [(true, [sl _ _, val _, val _, sl _ _, sl _ _, sl _ _, sl _ _, val _])]) (as_ := [(true, [sl _ _, val _, val _, sl _ _, sl _ _, sl _ _, sl _ _, val _])]) (by decide) ES (by exact ⟨rfl, ⟨⟩⟩) (by exact (aI (by exact tI) tI)) (by decide) (by exact lq) (by exact (GP (e := qb e (cQ e.Store u).1) (by omega))) (fun x hx => hx) (by exact lq) (by exact lq) ?_
 refine wA ?_ (x := bh (ag := true) (vs := [sl _ _, val _, val _, sl _ _, sl _ _, sl _ _, sl _ _, val _]) bU (by exact tI) (by exact rfl) (by exact nl rfl))
 refine wA ?_ (x := kA)
 refine pi ?_
 exact LJ
def adX {p1 p2 p5 p6 p7 p8 p9 p11 p12 p13 p14 p16 p17 p18 : Fl} {e : aA} {u : aeC}  (hb : bp e ≤ 68718000000) (hbu0 : lp u ≤ 68718000000) : aN prog 89 [(true, [sl .v (e.Store.aey.map (aG p1 p2)), val (vI e.Store.Now), val (vI e.aeD), sl .v (e.Order.map am), sl .v (e.aez.map (aT p5 p6 p7 p8 p9)), sl .v (e.Done.map (bn p11 p12 p13 p14)), sl .v (e.aeL.map (bl p16 p17 p18)), val (vI e.Steps)]), (true, [val (vI u.Kind), val (vI u.Row.Id), sl .v (u.Row.Values.map am), val (vI u.Field), val (vI u.Value)])] (aJ [(true, [sl bz ((cD e u).1.Store.aey.map (aG aV ab)), val (vI (cD e u).1.Store.Now), val (vI (cD e u).1.aeD), sl ab ((cD e u).1.Order.map am), sl ce ((cD e u).1.aez.map (aT aD ab ab aE ab)), sl bT ((cD e u).1.Done.map (bn aD ab aE ab)), sl bY ((cD e u).1.aeL.map (bl ab ab ab)), val (vI (cD e u).1.Steps)]), (false, [val (.bool (cD e u).2)])]) := by
 refine mq (largs := fun L => [(true, [sl (.lo L) (e.Store.aey.map (aG (.lo L) (.lo L))), val (vI e.Store.Now), val (vI e.aeD), sl (.lo L) (e.Order.map am), sl (.lo L) (e.aez.map (aT (.lo L) (.lo L) (.lo L) (.lo L) (.lo L))), sl (.lo L) (e.Done.map (bn (.lo L) (.lo L) (.lo L) (.lo L))), sl (.lo L) (e.aeL.map (bl (.lo L) (.lo L) (.lo L))), val (vI e.Steps)]), (true, [val (vI u.Kind), val (vI u.Row.Id), sl (.lo L) (u.Row.Values.map am), val (vI u.Field), val (vI u.Value)])]) (rs := [(true, [sl bz ((cD e u).1.Store.aey.map (aG aV ab)), val (vI (cD e u).1.Store.Now), val (vI (cD e u).1.aeD), sl ab ((cD e u).1.Order.map am), sl ce ((cD e u).1.aez.map (aT aD ab ab aE ab)), sl bT ((cD e u).1.Done.map (bn aD ab aE ab)), sl bY ((cD e u).1.aeL.map (bl ab ab ab)), val (vI (cD e u).1.Steps)]), (false, [val (.bool (cD e u).2)])]) func89 rfl (nl rfl) (fun L => by exact (aI (aI rfl (ae.cons (aP (fun _ => nl rfl) (fun _ => (ae.cons (aP (fun _ => nl rfl) (fun _ => (ae.cons av (ae.cons (aP (fun _ => nl rfl) (fun _ => (ae.cons av ae.nil))) (ae.cons av (ae.cons av ae.nil)))))) ae.nil))) (ae.cons av (ae.cons av (ae.cons (aP (fun _ => nl rfl) (fun _ => (ae.cons av ae.nil))) (ae.cons (aP (fun _ => nl rfl) (fun _ => (ae.cons av (ae.cons av (ae.cons (aP (fun _ => nl rfl) (fun _ => (ae.cons av (ae.cons av (ae.cons av ae.nil))))) (ae.cons (aP (fun _ => nl rfl) (fun _ => (ae.cons av ae.nil))) (ae.cons av (ae.cons (aP (fun _ => nl rfl) (fun _ => (ae.cons av ae.nil))) (ae.cons av (ae.cons av (ae.cons av (ae.cons (aP (fun _ => nl rfl) (fun _ => (ae.cons av (ae.cons (aP (fun _ => nl rfl) (fun _ => (ae.cons av ae.nil))) ae.nil)))) ae.nil)))))))))))) (ae.cons (aP (fun _ => nl rfl) (fun _ => (ae.cons av (ae.cons av (ae.cons (aP (fun _ => nl rfl) (fun _ => (ae.cons av (ae.cons av (ae.cons av ae.nil))))) (ae.cons (aP (fun _ => nl rfl) (fun _ => (ae.cons av ae.nil))) (ae.cons av (ae.cons av (ae.cons (aP (fun _ => nl rfl) (fun _ => (ae.cons av (ae.cons (aP (fun _ => nl rfl) (fun _ => (ae.cons av ae.nil))) ae.nil)))) ae.nil))))))))) (ae.cons (aP (fun _ => nl rfl) (fun _ => (ae.cons av (ae.cons av (ae.cons (aP (fun _ => nl rfl) (fun _ => (ae.cons av ae.nil))) (ae.cons (aP (fun _ => nl rfl) (fun _ => (ae.cons av ae.nil))) (ae.cons (aP (fun _ => nl rfl) (fun _ => (ae.cons av ae.nil))) ae.nil))))))) (ae.cons av ae.nil))))))))) (aI (aI rfl (ae.cons av (ae.cons av (ae.cons (aP (fun _ => nl rfl) (fun _ => (ae.cons av ae.nil))) (ae.cons av (ae.cons av ae.nil)))))) tI))) (fun L => by exact lq) ?_
 intro w0 Fz0
 refine sn 0 0 fun hl0_0 => ?_
 refine sn 0 3 fun hl0_3 => ?_
 refine sn 0 4 fun hl0_4 => ?_
 refine sn 0 5 fun hl0_5 => ?_
 refine sn 0 6 fun hl0_6 => ?_
 refine sn 1 2 fun hl1_2 => ?_
 have hbu := hb
 simp only [bp, fB, fC, fV] at hbu
 have haw := Gp e.Store u
 have hww := Gq e u
 refine Px ?_
 refine Nj ?_
 refine CI ?_
 refine tK ?_
 refine sO [(2, _), (3, _), (4, _), (5, _), (6, _)] [(2, _), (3, _), (4, _), (6, (32, [sl _ _, val _, val _, sl _ _, sl _ _, sl _ _, sl _ _, val _]))] ?_
 refine og ?_
 refine rA ?_ (x := cL [(true, [sl (.lo _) _, val _, val _, sl (.lo _) _, sl (.lo _) _, sl (.lo _) _, sl (.lo _) _, val _])] [(true, [sl .v _, val _, val _, sl .v _, sl .v _, sl .v _, sl .v _, val _])] Ab (hs := by exact (AR (by omega))))
 refine rA ?_ (x := nT)
 refine sc ?_ ?_ <;> intro hba
 have hno : (aX e && (cQ e.Store u).2) = false := by first | (simp_all; done) | (cases h1_ : aX e <;> cases h2_ : (cQ e.Store u).2 <;> simp_all)
 refine sS [2, 3, 4, 5, 6] [2, 3, 4, 6] ?_
 exact LI
 refine yQ ?_
 refine Do ?_
 refine rA ?_ (x := lD [val _, val _, sl (.lo _) _, val _, val _] ma)
 refine rA ?_ (x := cL [(true, [sl (.lo _) _, val _]), (true, [val _, val _, sl (.lo _) _, val _, val _])] [(true, [sl .v _, val _]), (true, [val _, val _, sl .v _, val _, val _])] Ru (hs := by exact (Ub (by omega) (by omega))))
 refine wj ?_
 refine mw ?_
 refine rS ?_
 refine Pq ?_
 refine lP ?_
 refine rA ?_ (x := nT)
 refine sc ?_ ?_ <;> intro hbb
 exact Cm
 have hok : (aX e && (cQ e.Store u).2) = true := by first | (simp_all; done) | (cases h1_ : aX e <;> cases h2_ : (cQ e.Store u).2 <;> simp_all)
 refine bb ?_
 refine Nb ?_
 refine yy ?_
 refine be ?_
 refine NU ?_
 refine wO [(2, _), (3, _), (4, _), (5, _), (6, _), (7, _), (8, _)] [(2, _), (3, _), (4, _), (6, _), (7, _)] ?_
 refine uM (bx := 6) (L := (Lw w0.heap.size)) (qs := []) (as_ := []) (by decide) EU rfl (by exact rfl) (by exact rfl) (by exact tI) (by exact tI) (by decide) (by exact tI) (by exact (GQ (e := qb e (cQ e.Store u).1) (by omega))) (fun x hx => hx) (by exact lq) (by exact lq) ?_
 refine pi ?_
 refine be ?_
 refine sO [(2, _), (3, _), (4, _), (5, _), (6, _), (7, _), (8, _)] [(2, _), (3, _), (4, _), (6, (32, [sl _ _, val _, val _, sl _ _, sl _ _, sl _ _, sl _ _, val _])), (7, _)] ?_
 refine tB ?_
 refine rK ?_
 exact LJ
def adY {p1 p2 p5 p6 p7 p8 p9 p11 p12 p13 p14 p16 p17 p18 : Fl} {e : aA} {x : et}  (hb : bp e ≤ 68710000000) (hx : lr x ≤ 68710000000) : aN prog 23 [(true, [sl .v (e.Store.aey.map (aG p1 p2)), val (vI e.Store.Now), val (vI e.aeD), sl .v (e.Order.map am), sl .v (e.aez.map (aT p5 p6 p7 p8 p9)), sl .v (e.Done.map (bn p11 p12 p13 p14)), sl .v (e.aeL.map (bl p16 p17 p18)), val (vI e.Steps)]), (true, [val (vI x.Kind), val (vI x.aeA.Id), val (vI x.aeA.aeE), sl .v (x.aeA.aeB.map bH), sl .v (x.aeA.Out.map am), val (vI x.Limit), val (vI x.Id), val (vI x.aeC.Kind), val (vI x.aeC.Row.Id), sl .v (x.aeC.Row.Values.map am), val (vI x.aeC.Field), val (vI x.aeC.Value), val (vI x.Steps)])] (aJ [(true, [sl bz ((dl e x).1.Store.aey.map (aG aV ab)), val (vI (dl e x).1.Store.Now), val (vI (dl e x).1.aeD), sl ab ((dl e x).1.Order.map am), sl ce ((dl e x).1.aez.map (aT aD ab ab aE ab)), sl bT ((dl e x).1.Done.map (bn aD ab aE ab)), sl bY ((dl e x).1.aeL.map (bl ab ab ab)), val (vI (dl e x).1.Steps)]), (false, [val (.bool (dl e x).2)])]) := by
 refine sF func23 fun h0 w0 Fz0 => ?_
 refine sn 0 0 fun hl0_0 => ?_
 refine sn 0 3 fun hl0_3 => ?_
 refine sn 0 4 fun hl0_4 => ?_
 refine sn 0 5 fun hl0_5 => ?_
 refine sn 0 6 fun hl0_6 => ?_
 refine sn 1 3 fun hl1_3 => ?_
 refine sn 1 4 fun hl1_4 => ?_
 refine sn 1 9 fun hl1_9 => ?_
 have hbu := hb
 simp only [bp, fB, fC, fV] at hbu
 have hbx := hx
 simp only [lr, bf] at hbx
 refine Ou ?_
 refine vo ?_
 refine sT [2, 3, 4, 5] [2, 3, 4] ?_
 refine sB ?_
 refine fz ?_
 refine cx 9 (fun ga sga => ?_) (fun ga sga => ?_)
 refine mE ?_
 exact LL
 refine rB ga ?_ (x := lD [val _, val _, val _, sl .v _, sl .v _, val _, val _, val _, val _, sl .v _, val _, val _, val _] tT)
 refine rB ga ?_ (x := cL [(true, [val _, val _, val _, sl _ _, sl _ _, val _, val _, val _, val _, sl _ _, val _, val _, val _])] [(true, [val _, val _, val _, sl .v _, sl .v _, val _, val _, val _, val _, sl .v _, val _, val _, val _])] Zr (hs := by exact adT))
 refine lO ?_
 refine sc ?_ ?_ <;> intro hba
 exact LL
 have hok : (aX e && fp x) = true := by first | (simp_all; done) | (cases h1_ : aX e <;> cases h2_ : fp x <;> simp_all)
 refine eG ?_
 refine sS [2, 3, 4, 5] [2, 3, 4] ?_
 refine vR ?_
 refine Ef ?_
 refine sc ?_ ?_ <;> intro hbb
 have hk1 : x.Kind = 1 := by first | exact hbb | simpa using hbb
 refine yB ?_
 refine sK ?_
 refine rA ?_ (x := lF oG)
 refine rA ?_ (x := lD [val _] az)
 refine rA ?_ (x := cL [(true, [sl _ _, val _, val _, sl _ _, sl _ _, sl _ _, sl _ _, val _]), (true, [val _, val _, sl _ _, sl _ _]), (false, [val _])] [(true, [sl .v _, val _, val _, sl .v _, sl .v _, sl .v _, sl .v _, val _]), (true, [val _, val _, sl .v _, sl .v _]), (false, [val _])] Zs (hs := by exact (adz (by omega) (by omega))))
 exact Cn
 have hk1n : ¬ x.Kind = 1 := by first | exact hbb | simpa using hbb
 refine Ef ?_
 refine sc ?_ ?_ <;> intro hbc
 have hk2 : x.Kind = 2 := by first | exact hbc | simpa using hbc
 refine yB ?_
 refine rA ?_ (x := lF oH)
 refine rA ?_ (x := lD [val _] az)
 refine rA ?_ (x := cL [(true, [sl _ _, val _, val _, sl _ _, sl _ _, sl _ _, sl _ _, val _]), (false, [val _])] [(true, [sl .v _, val _, val _, sl .v _, sl .v _, sl .v _, sl .v _, val _]), (false, [val _])] Zt (hs := by exact (adB (by omega))))
 exact Cn
 have hk2n : ¬ x.Kind = 2 := by first | exact hbc | simpa using hbc
 refine Ef ?_
 refine sc ?_ ?_ <;> intro hbd
 have hk3 : x.Kind = 3 := by first | exact hbd | simpa using hbd
 refine yB ?_
 refine vm ?_
 refine rA ?_ (x := cL [(true, [sl _ _, val _, val _, sl _ _, sl _ _, sl _ _, sl _ _, val _]), (true, [val _, val _, sl _ _, val _, val _])] [(true, [sl .v _, val _, val _, sl .v _, sl .v _, sl .v _, sl .v _, val _]), (true, [val _, val _, sl .v _, val _, val _])] Zu (hs := by exact (adW (by omega) (by omega))))
 exact Cn
 have hk3n : ¬ x.Kind = 3 := by first | exact hbd | simpa using hbd
 refine bb ?_
 refine yB ?_
 refine rA ?_ (x := lF pL)
 refine rA ?_ (x := lD [val _] az)
 refine rA ?_ (x := cL [(true, [sl _ _, val _, val _, sl _ _, sl _ _, sl _ _, sl _ _, val _]), (false, [val _])] [(true, [sl .v _, val _, val _, sl .v _, sl .v _, sl .v _, sl .v _, val _]), (false, [val _])] XY (hs := by exact (adU (by omega))))
 refine Oz ?_
 exact LM
def adZ {p1 p2 p5 p6 p7 p8 p9 p11 p12 p13 p14 p16 p17 p18 : Fl} {e : aA} {x : et}  (hb : bp e ≤ 68710000000) (hx : lr x ≤ 68710000000) : aN prog 24 [(true, [sl .v (e.Store.aey.map (aG p1 p2)), val (vI e.Store.Now), val (vI e.aeD), sl .v (e.Order.map am), sl .v (e.aez.map (aT p5 p6 p7 p8 p9)), sl .v (e.Done.map (bn p11 p12 p13 p14)), sl .v (e.aeL.map (bl p16 p17 p18)), val (vI e.Steps)]), (true, [val (vI x.Kind), val (vI x.aeA.Id), val (vI x.aeA.aeE), sl .v (x.aeA.aeB.map bH), sl .v (x.aeA.Out.map am), val (vI x.Limit), val (vI x.Id), val (vI x.aeC.Kind), val (vI x.aeC.Row.Id), sl .v (x.aeC.Row.Values.map am), val (vI x.aeC.Field), val (vI x.aeC.Value), val (vI x.Steps)])] (aJ [(true, [sl bz ((dl e x).1.Store.aey.map (aG aV ab)), val (vI (dl e x).1.Store.Now), val (vI (dl e x).1.aeD), sl ab ((dl e x).1.Order.map am), sl ce ((dl e x).1.aez.map (aT aD ab ab aE ab)), sl bT ((dl e x).1.Done.map (bn aD ab aE ab)), sl bY ((dl e x).1.aeL.map (bl ab ab ab)), val (vI (dl e x).1.Steps)]), (false, [val (.bool (dl e x).2)])]) := by
 refine sF func24 fun h0 w0 Fz0 => ?_
 refine sn 0 0 fun hl0_0 => ?_
 refine sn 0 3 fun hl0_3 => ?_
 refine sn 0 4 fun hl0_4 => ?_
 refine sn 0 5 fun hl0_5 => ?_
 refine sn 0 6 fun hl0_6 => ?_
 refine sn 1 3 fun hl1_3 => ?_
 refine sn 1 4 fun hl1_4 => ?_
 refine sn 1 9 fun hl1_9 => ?_
 have hbu := hb
 simp only [bp, fB, fC, fV] at hbu
 have hbx := hx
 simp only [lr, bf] at hbx
 refine Ou ?_
 refine rX ?_ (x := (cr (by decide) kI kK))
 refine rK ?_
 refine sT [2, 3, 4, 5] [2, 3, 4] ?_
 refine ym ?_
 refine tK ?_
 refine OK ?_
 refine CA ?_
 refine fz ?_
 refine cx 13 (fun ga sga => ?_) (fun ga sga => ?_)
 refine mE ?_
 exact LO
 refine rB ga ?_ (x := lD [val _, val _, val _, sl .v _, sl .v _, val _, val _, val _, val _, sl .v _, val _, val _, val _] tT)
 refine rB ga ?_ (x := cL [(true, [val _, val _, val _, sl _ _, sl _ _, val _, val _, val _, val _, sl _ _, val _, val _, val _])] [(true, [val _, val _, val _, sl .v _, sl .v _, val _, val _, val _, val _, sl .v _, val _, val _, val _])] Zv (hs := by exact adS))
 refine lO ?_
 refine sc ?_ ?_ <;> intro hba
 exact LO
 have hok : (aX e && fp x) = true := by first | (simp_all; done) | (cases h1_ : aX e <;> cases h2_ : fp x <;> simp_all)
 refine yQ ?_
 refine eH ?_
 refine sS [2, 3, 4, 5, 6, 7] [2, 3, 4, 6] ?_
 refine vR ?_
 refine DT ?_
 refine sc ?_ ?_ <;> intro hbb
 have hk1 : x.Kind = 1 := by first | exact hbb | simpa using hbb
 refine yz ?_
 refine sK ?_
 refine rA ?_ (x := lF oG)
 refine rA ?_ (x := lD [val _] az)
 refine rA ?_ (x := cL [(true, [sl _ _, val _, val _, sl _ _, sl _ _, sl _ _, sl _ _, val _]), (true, [val _, val _, sl _ _, sl _ _]), (false, [val _])] [(true, [sl .v _, val _, val _, sl .v _, sl .v _, sl .v _, sl .v _, val _]), (true, [val _, val _, sl .v _, sl .v _]), (false, [val _])] Zw (hs := by exact (adA (by omega) (by omega))))
 exact Co
 have hk1n : ¬ x.Kind = 1 := by first | exact hbb | simpa using hbb
 refine DT ?_
 refine sc ?_ ?_ <;> intro hbc
 have hk2 : x.Kind = 2 := by first | exact hbc | simpa using hbc
 refine yz ?_
 refine rA ?_ (x := lF oH)
 refine rA ?_ (x := lD [val _] az)
 refine rA ?_ (x := cL [(true, [sl _ _, val _, val _, sl _ _, sl _ _, sl _ _, sl _ _, val _]), (false, [val _])] [(true, [sl .v _, val _, val _, sl .v _, sl .v _, sl .v _, sl .v _, val _]), (false, [val _])] Zx (hs := by exact (adC (by omega))))
 exact Co
 have hk2n : ¬ x.Kind = 2 := by first | exact hbc | simpa using hbc
 refine DT ?_
 refine sc ?_ ?_ <;> intro hbd
 have hk3 : x.Kind = 3 := by first | exact hbd | simpa using hbd
 refine yz ?_
 refine vm ?_
 refine rA ?_ (x := cL [(true, [sl _ _, val _, val _, sl _ _, sl _ _, sl _ _, sl _ _, val _]), (true, [val _, val _, sl _ _, val _, val _])] [(true, [sl .v _, val _, val _, sl .v _, sl .v _, sl .v _, sl .v _, val _]), (true, [val _, val _, sl .v _, val _, val _])] Zy (hs := by exact (adX (by omega) (by omega))))
 exact Co
 have hk3n : ¬ x.Kind = 3 := by first | exact hbd | simpa using hbd
 refine yz ?_
 refine rA ?_ (x := lF pL)
 refine rA ?_ (x := lD [val _] az)
 refine rA ?_ (x := cL [(true, [sl _ _, val _, val _, sl _ _, sl _ _, sl _ _, sl _ _, val _]), (false, [val _])] [(true, [sl .v _, val _, val _, sl .v _, sl .v _, sl .v _, sl .v _, val _]), (false, [val _])] Zz (hs := by exact (adV (by omega))))
 refine rA ?_ (x := bh (ag := true) (vs := [sl _ _, val _, val _, sl _ _, sl _ _, sl _ _, sl _ _, val _]) bU (by exact tI) (by exact rfl) (by exact nl rfl))
 exact LP
end Go.Proofs.YtmekkgdboplbjaaGreat
