/- What functions of the program compute. No condition. -/
import Derived.Test.YtmekkgdboplbjaaGreatDoorCF1
import Derived.Test.YtmekkgdboplbjaaGreatDoorCD1
set_option linter.all false
namespace Go.Proofs.YtmekkgdboplbjaaGreatDoor
open Go Go.RowKit M PV
set_option maxRecDepth 10000
attribute [local irreducible] PV.Lcl PV.LclR RV.Lcl
set_option maxHeartbeats 8000000
def Ni {p1 p2 p5 p6 p7 p8 p9 p11 p12 p13 p14 p16 p17 p18 : Fl} {e : ay} {id : Int}  (hb : bB e ≤ 68719000000) : aN Tryz.prog 224 [(true, [sl .v (e.Store.ZE.map (aO p1 p2)), val (vI e.Store.Now), val (vI e.ZJ), sl .v (e.Order.map an), sl .v (e.ZF.map (bq p5 p6 p7 p8 p9)), sl .v (e.Done.map (bN p11 p12 p13 p14)), sl .v (e.ZR.map (bF p16 p17 p18)), val (vI e.Steps)]), (false, [val (vI id)])] (aF [(true, [sl bQ ((eV e id).1.Store.ZE.map (aO be ae)), val (vI (eV e id).1.Store.Now), val (vI (eV e id).1.ZJ), sl ae ((eV e id).1.Order.map an), sl dr ((eV e id).1.ZF.map (bq aP ae ae aR ae)), sl cQ ((eV e id).1.Done.map (bN aP ae aR ae)), sl cH ((eV e id).1.ZR.map (bF ae ae ae)), val (vI (eV e id).1.Steps)]), (false, [val (.bool (eV e id).2)])]) := by
 refine qN (largs := fun L => [(true, [sl (.lo L) (e.Store.ZE.map (aO (.lo L) (.lo L))), val (vI e.Store.Now), val (vI e.ZJ), sl (.lo L) (e.Order.map an), sl (.lo L) (e.ZF.map (bq (.lo L) (.lo L) (.lo L) (.lo L) (.lo L))), sl (.lo L) (e.Done.map (bN (.lo L) (.lo L) (.lo L) (.lo L))), sl (.lo L) (e.ZR.map (bF (.lo L) (.lo L) (.lo L))), val (vI e.Steps)]), (false, [val (vI id)])]) (rs := [(true, [sl bQ ((eV e id).1.Store.ZE.map (aO be ae)), val (vI (eV e id).1.Store.Now), val (vI (eV e id).1.ZJ), sl ae ((eV e id).1.Order.map an), sl dr ((eV e id).1.ZF.map (bq aP ae ae aR ae)), sl cQ ((eV e id).1.Done.map (bN aP ae aR ae)), sl cH ((eV e id).1.ZR.map (bF ae ae ae)), val (vI (eV e id).1.Steps)]), (false, [val (.bool (eV e id).2)])]) Tryz.func224 rfl (nl rfl) (fun L => by exact (aI (aI rfl (aj.cons (bn (fun _ => nl rfl) (fun _ => (aj.cons (bn (fun _ => nl rfl) (fun _ => (aj.cons aC (aj.cons (bn (fun _ => nl rfl) (fun _ => (aj.cons aC aj.nil))) (aj.cons aC (aj.cons aC aj.nil)))))) aj.nil))) (aj.cons aC (aj.cons aC (aj.cons (bn (fun _ => nl rfl) (fun _ => (aj.cons aC aj.nil))) (aj.cons (bn (fun _ => nl rfl) (fun _ => (aj.cons aC (aj.cons aC (aj.cons (bn (fun _ => nl rfl) (fun _ => (aj.cons aC (aj.cons aC (aj.cons aC aj.nil))))) (aj.cons (bn (fun _ => nl rfl) (fun _ => (aj.cons aC aj.nil))) (aj.cons aC (aj.cons (bn (fun _ => nl rfl) (fun _ => (aj.cons aC aj.nil))) (aj.cons aC (aj.cons aC (aj.cons aC (aj.cons (bn (fun _ => nl rfl) (fun _ => (aj.cons aC (aj.cons (bn (fun _ => nl rfl) (fun _ => (aj.cons aC aj.nil))) aj.nil)))) aj.nil)))))))))))) (aj.cons (bn (fun _ => nl rfl) (fun _ => (aj.cons aC (aj.cons aC (aj.cons (bn (fun _ => nl rfl) (fun _ => (aj.cons aC (aj.cons aC (aj.cons aC aj.nil))))) (aj.cons (bn (fun _ => nl rfl) (fun _ => (aj.cons aC aj.nil))) (aj.cons aC (aj.cons aC (aj.cons (bn (fun _ => nl rfl) (fun _ => (aj.cons aC (aj.cons (bn (fun _ => nl rfl) (fun _ => (aj.cons aC aj.nil))) aj.nil)))) aj.nil))))))))) (aj.cons (bn (fun _ => nl rfl) (fun _ => (aj.cons aC (aj.cons aC (aj.cons (bn (fun _ => nl rfl) (fun _ => (aj.cons aC aj.nil))) (aj.cons (bn (fun _ => nl rfl) (fun _ => (aj.cons aC aj.nil))) (aj.cons (bn (fun _ => nl rfl) (fun _ => (aj.cons aC aj.nil))) aj.nil))))))) (aj.cons aC aj.nil))))))))) (aI (aI rfl (aj.cons aC aj.nil)) tI))) (fun L => by exact lq) ?_
 intro w0 Fz0
 refine sn 0 0 fun hl0_0 => ?_
 refine sn 0 3 fun hl0_3 => ?_
 refine sn 0 4 fun hl0_4 => ?_
 refine sn 0 5 fun hl0_5 => ?_
 refine sn 0 6 fun hl0_6 => ?_
 have hbu := hb
 simp only [bB, ix, mC, hZ] at hbu
 refine zJ ?_
 refine wd ?_
 refine sO [(1, _), (2, _), (4, _), (5, _)] [(2, (46, [sl (.lo _) _, val _, val _, sl (.lo _) _, sl (.lo _) _, sl (.lo _) _, sl (.lo _) _, val _])), (4, (46, [sl _ _, val _, val _, sl _ _, sl _ _, sl _ _, sl _ _, val _]))] ?_
 refine bi ?_
 refine zv ?_
 refine oE ?_
 refine ba ?_
 refine sO [(1, _), (2, _), (4, _), (5, _), (6, _)] [(2, _), (4, _), (6, (46, [sl _ _, val _, val _, sl _ _, sl _ _, sl _ _, sl _ _, val _]))] ?_
 refine bi ?_
 refine rA ?_ (x := lD [sl (.lo _) _, val _, val _, sl (.lo _) _, sl (.lo _) _, sl (.lo _) _, sl (.lo _) _, val _] co)
 refine rM ?_
 refine rA ?_ (x := cL [(true, [sl (.lo _) _, val _, val _, sl (.lo _) _, sl (.lo _) _, sl (.lo _) _, sl (.lo _) _, val _]), (false, [val _])] [(true, [sl .v _, val _, val _, sl .v _, sl .v _, sl .v _, sl .v _, val _]), (false, [val _])] xf (hs := by exact xN))
 refine gA ?_
 refine sS [1, 2, 4, 5, 6, 7] [2, 4, 6] ?_
 refine zu ?_
 refine gk ?_
 refine cx 16 (fun ga sga => ?_) (fun ga sga => ?_)
 refine mz ?_
 exact GN
 refine rB ga ?_ (x := sM)
 refine rB ga ?_ (x := dZ)
 refine rA ?_ (x := aH ga)
 refine sc (fun hba => ?_) (fun hba => ?_)
 exact GN
 have hoe : aT e = true := by simp_all
 have hge : 0 ≤ dv e.ZF id := by first | omega | (simp_all; omega)
 have hok : kQ e id = true := by unfold kQ; rw [hoe, decide_eq_true hge]; rfl
 obtain ⟨i, hi, hf⟩ := Mz hge
 have hef := gU hoe
 have hdw := MB hi
 have hdl := El hi
 refine eA ?_
 refine sP [1, 2, 4, 5, 6, 7] [2, 4, 6] ?_
 refine yF (d := 6) (t := 102) (e := 10) (G := 6200) (A := [sl _ _, val _, val _, sl _ _]) (B := [sl _ _, sl _ _, val _]) (f := (bq aP ae ae aR ae)) (g := (fun z : ZF => [val (vI z.ZG.Id), val (vI z.ZG.ZK), sl .v (z.ZG.ZH.map dj), sl .v (z.ZG.Out.map an), val (vI z.Time), sl .v (z.ZO.map an), val (vI z.Age), val (vI z.Sent), val (vI z.Cap), sl .v (z.Rows.map (dt ae))])) (fN := jr) (xs := e.ZF) (by exact rfl) (by exact rfl) (fun _ _ => rfl) (fun _ => rfl) (fun _ => (aq (aq (aA (aA (aq (aA (aq (aq (aq (aA ao.nil))))))))))) (fun _ => (by exact lq)) fun za hza => ?_
 have hzal : za.length = e.ZF.length := by rw [← am (f := Prod.fst), hza]
 refine sO [(1, _), (2, _), (4, _), (5, _), (6, _), (7, _), (6200, _)] [(2, _), (4, _), (6, (46, [sl _ _, val _, val _, sl _ _, sl _ _, sl _ _, sl _ _, val _]))] ?_
 refine cv cd ?_
 refine dA 0 ?_ (x := bm (qs := []) (by decide) ct jl (by decide) rfl rfl rfl rfl rfl (by exact nl rfl) (by exact tI) rfl)
 refine dA 0 ?_ (x := lF eQ)
 refine dA 2 ?_ (x := lD [sl .v _] eG)
 refine dA 0 ?_ (x := sM)
 refine dA 14 ?_ (x := uR (i := 0) (j := i) (ys := (za.take i)) (q := (0 : Int)) (by decide) ct (by exact rfl) (by exact tI) (by rfl) (by omega) (by omega) (by omega) (fun _ => rfl) (by simp))
 refine dA 31 ?_ (x := iW (by decide) ct jl rfl rfl (by decide) (by intro cs hcs; obtain ⟨x, _, rfl⟩ := List.mem_map.1 hcs; exact rfl) (by intro cs hcs; obtain ⟨x, _, rfl⟩ := List.mem_map.1 hcs; exact (by exact lq)) (by simp only [am, aD, List.length_cons, List.length_nil, gG, bg]; omega) (by simp only [am, aD, List.length_cons, List.length_nil, gG, bg]; omega))
 refine dA 0 ?_ (x := lF eQ)
 refine dA 64 ?_ (x := lD [sl .v _] eG)
 refine dA 0 ?_ (x := sM)
 refine dA 256 ?_ (x := iX)
 refine dA 960 ?_ (x := uR (i := (i + 1)) (j := za.length) (ys := (za.drop (i + 1))) (r := ((za.length : Nat) : Int)) (by decide) ct (by exact tI) (by exact rfl) (by omega) (by rfl) (by omega) (by omega) (fun _ => rfl) (by rw [bY]))
 refine dA 2047 ?_ (x := iW (by decide) ct jl rfl rfl (by decide) (by intro cs hcs; obtain ⟨x, _, rfl⟩ := List.mem_map.1 hcs; exact rfl) (by intro cs hcs; obtain ⟨x, _, rfl⟩ := List.mem_map.1 hcs; exact (by exact lq)) (by simp only [am, aD, List.length_cons, List.length_nil, gG, bg]; omega) (by simp only [am, aD, List.length_cons, List.length_nil, gG, bg]; omega))
 refine dA 4095 ?_ (x := lF eQ)
 refine dA 8191 ?_ (x := bf (ag := false) (vs := [sl _ _]) eG (by exact tI) (by exact rfl) (by exact nl rfl))
 refine ba ?_
 refine sO [(1, _), (2, _), (4, _), (5, _), (6, _), (7, _), (6200, _)] [(2, _), (4, _), (6, (46, [sl _ _, val _, val _, sl _ _, sl _ _, sl _ _, sl _ _, val _]))] ?_
 refine cK (d := 6) (by exact rfl) (show _ = [sl bQ (e.Store.ZE.map (aO be ae)), val (vI e.Store.Now), val (vI e.ZJ), sl ae (e.Order.map an), sl dr ((hY za i).map jr), sl cQ (e.Done.map (bN aP ae aR ae)), sl cH (e.ZR.map (bF ae ae ae)), val (vI e.Steps)] from by unfold hY; simp only [bb]; exact rfl) ?_
 refine sP [1, 2, 4, 5, 6, 7, 6200] [2, 4, 6] ?_
 refine Ek (d := 6) (t := 102) (e := 10) (G := 6200) (A := [sl _ _, val _, val _, sl _ _]) (B := [sl _ _, sl _ _, val _]) (f := (bq aP ae ae aR ae)) (g := (fun z : ZF => [val (vI z.ZG.Id), val (vI z.ZG.ZK), sl .v (z.ZG.ZH.map dj), sl .v (z.ZG.Out.map an), val (vI z.Time), sl .v (z.ZO.map an), val (vI z.Age), val (vI z.Sent), val (vI z.Cap), sl .v (z.Rows.map (dt ae))])) (fN := jr) (ys := (hY za i)) [za[i]] (hY e.ZF i) (by exact rfl) (by exact rfl) (fun _ _ => rfl) (fun _ => rfl) (fun _ => rfl) (MA (by omega)) (WB hza) ?_
 refine sO [(1, _), (2, _), (4, _), (5, _), (6, _), (7, _)] [(2, _), (4, _), (6, (46, [sl _ _, val _, val _, sl _ _, sl _ _, sl _ _, sl _ _, val _]))] ?_
 refine qM ?_
 refine wO [(1, _), (2, _), (4, _), (5, _), (6, _), (7, _)] [(2, _), (4, _), (6, _)] ?_
 refine sI (bx := 6) (L := (Lw w0.heap.size)) (qs := []) (as_ := []) (by decide) Bs rfl (by exact rfl) (by exact rfl) (by exact tI) (by exact tI) (by decide) (by exact tI) (by exact (Cz (e := qC e i) (by omega))) (fun x hx => hx) (by exact lq) (by exact lq) ?_
 refine sw ?_
 refine ba ?_
 refine sO [(1, _), (2, _), (4, _), (5, _), (6, _), (7, _)] [(2, _), (4, _), (6, (46, [sl _ _, val _, val _, sl _ _, sl _ _, sl _ _, sl _ _, val _]))] ?_
 refine bi ?_
 refine oM ?_
 exact (bj 4 (bj _ (aI (by exact rfl) (aI (by refine dW ?_; rw [Cq hok hf]; exact rfl) (aI co (aI (fun h => nomatch h) (aI (by refine gZ ?_; rw [Cq hok hf]) tI)))))))
end Go.Proofs.YtmekkgdboplbjaaGreatDoor
