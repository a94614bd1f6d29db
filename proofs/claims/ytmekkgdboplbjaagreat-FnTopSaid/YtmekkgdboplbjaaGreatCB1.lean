/- What functions of the program compute. No condition. -/
import Derived.Test.YtmekkgdboplbjaaGreatCW0
import Derived.Test.YtmekkgdboplbjaaGreatCX0
set_option linter.all false
namespace Go.Proofs.YtmekkgdboplbjaaGreat
open Go Go.RowKit M PV
set_option maxRecDepth 10000
attribute [local irreducible] PV.Lcl PV.LclR RV.Lcl
set_option maxHeartbeats 8000000
def adB {p1 p2 p5 p6 p7 p8 p9 p11 p12 p13 p14 p16 p17 p18 : Fl} {e : aA} {id : Int}  (hb : bp e ≤ 68719000000) : aN Tryz.prog 84 [(true, [sl .v (e.Store.aey.map (aG p1 p2)), val (vI e.Store.Now), val (vI e.aeD), sl .v (e.Order.map am), sl .v (e.aez.map (aT p5 p6 p7 p8 p9)), sl .v (e.Done.map (bn p11 p12 p13 p14)), sl .v (e.aeL.map (bl p16 p17 p18)), val (vI e.Steps)]), (false, [val (vI id)])] (aJ [(true, [sl bz ((cK e id).1.Store.aey.map (aG aV ab)), val (vI (cK e id).1.Store.Now), val (vI (cK e id).1.aeD), sl ab ((cK e id).1.Order.map am), sl ce ((cK e id).1.aez.map (aT aD ab ab aE ab)), sl bT ((cK e id).1.Done.map (bn aD ab aE ab)), sl bY ((cK e id).1.aeL.map (bl ab ab ab)), val (vI (cK e id).1.Steps)]), (false, [val (.bool (cK e id).2)])]) := by
 refine mq (largs := fun L => [(true, [sl (.lo L) (e.Store.aey.map (aG (.lo L) (.lo L))), val (vI e.Store.Now), val (vI e.aeD), sl (.lo L) (e.Order.map am), sl (.lo L) (e.aez.map (aT (.lo L) (.lo L) (.lo L) (.lo L) (.lo L))), sl (.lo L) (e.Done.map (bn (.lo L) (.lo L) (.lo L) (.lo L))), sl (.lo L) (e.aeL.map (bl (.lo L) (.lo L) (.lo L))), val (vI e.Steps)]), (false, [val (vI id)])]) (rs := [(true, [sl bz ((cK e id).1.Store.aey.map (aG aV ab)), val (vI (cK e id).1.Store.Now), val (vI (cK e id).1.aeD), sl ab ((cK e id).1.Order.map am), sl ce ((cK e id).1.aez.map (aT aD ab ab aE ab)), sl bT ((cK e id).1.Done.map (bn aD ab aE ab)), sl bY ((cK e id).1.aeL.map (bl ab ab ab)), val (vI (cK e id).1.Steps)]), (false, [val (.bool (cK e id).2)])]) Tryz.func84 rfl (nl rfl) (fun L => by exact (aI (aI rfl (ae.cons (aP (fun _ => nl rfl) (fun _ => (ae.cons (aP (fun _ => nl rfl) (fun _ => (ae.cons av (ae.cons (aP (fun _ => nl rfl) (fun _ => (ae.cons av ae.nil))) (ae.cons av (ae.cons av ae.nil)))))) ae.nil))) (ae.cons av (ae.cons av (ae.cons (aP (fun _ => nl rfl) (fun _ => (ae.cons av ae.nil))) (ae.cons (aP (fun _ => nl rfl) (fun _ => (ae.cons av (ae.cons av (ae.cons (aP (fun _ => nl rfl) (fun _ => (ae.cons av (ae.cons av (ae.cons av ae.nil))))) (ae.cons (aP (fun _ => nl rfl) (fun _ => (ae.cons av ae.nil))) (ae.cons av (ae.cons (aP (fun _ => nl rfl) (fun _ => (ae.cons av ae.nil))) (ae.cons av (ae.cons av (ae.cons av (ae.cons (aP (fun _ => nl rfl) (fun _ => (ae.cons av (ae.cons (aP (fun _ => nl rfl) (fun _ => (ae.cons av ae.nil))) ae.nil)))) ae.nil)))))))))))) (ae.cons (aP (fun _ => nl rfl) (fun _ => (ae.cons av (ae.cons av (ae.cons (aP (fun _ => nl rfl) (fun _ => (ae.cons av (ae.cons av (ae.cons av ae.nil))))) (ae.cons (aP (fun _ => nl rfl) (fun _ => (ae.cons av ae.nil))) (ae.cons av (ae.cons av (ae.cons (aP (fun _ => nl rfl) (fun _ => (ae.cons av (ae.cons (aP (fun _ => nl rfl) (fun _ => (ae.cons av ae.nil))) ae.nil)))) ae.nil))))))))) (ae.cons (aP (fun _ => nl rfl) (fun _ => (ae.cons av (ae.cons av (ae.cons (aP (fun _ => nl rfl) (fun _ => (ae.cons av ae.nil))) (ae.cons (aP (fun _ => nl rfl) (fun _ => (ae.cons av ae.nil))) (ae.cons (aP (fun _ => nl rfl) (fun _ => (ae.cons av ae.nil))) ae.nil))))))) (ae.cons av ae.nil))))))))) (aI (aI rfl (ae.cons av ae.nil)) tI))) (fun L => by exact lq) ?_
 intro w0 Fz0
 refine sn 0 0 fun hl0_0 => ?_
 refine sn 0 3 fun hl0_3 => ?_
 refine sn 0 4 fun hl0_4 => ?_
 refine sn 0 5 fun hl0_5 => ?_
 refine sn 0 6 fun hl0_6 => ?_
 have hbu := hb
 simp only [bp, fB, fC, fV] at hbu
 refine va ?_
 refine NF ?_
 refine CG ?_
 refine ob ?_
 refine OR ?_
 refine og ?_
 refine rM ?_
 refine Nl ?_
 refine OP ?_
 refine CH ?_
 refine cx 16 (fun ga sga => ?_) (fun ga sga => ?_)
 exact La
 refine vJ ?_
 refine rA ?_ (x := aF ga)
 refine sc ?_ ?_ <;> intro hba
 exact Cg
 have hoe : aX e = true := by simp_all
 have hge : 0 ≤ dy e.aez id := by first | omega | (simp_all; omega)
 have hok : jG e id = true := by unfold jG; rw [hoe, decide_eq_true hge]; rfl
 obtain ⟨i, hi, hf⟩ := Gl hge
 have hef := gW hoe
 have hdw := Gn hi
 have hdl := BK hi
 refine eG ?_
 refine sP [1, 2, 4, 5, 6, 7] [2, 4, 6] ?_
 refine jL (d := 6) (t := 32) (D := 900) (G := 2900) (E := 108) (e := 10) (L := (Lw w0.heap.size)) (A := [sl _ _, val _, val _, sl _ _]) (B := [sl _ _, sl _ _, val _]) (es := (e.aez).map (aT aD ab ab aE ab)) (by exact rfl) (iN hi) (by exact rfl) (by exact rfl) rfl (by exact rfl) (fun x hx => hx) (by exact lq) (by exact lq) (by exact lq) (by exact lq) (ar.map fun x => (ar.cons lcl_val (ar.cons lcl_val (ar.cons (lcl_own (ar.map fun x => (ar.cons lcl_val (ar.cons lcl_val (ar.cons lcl_val ar.nil))))) (ar.cons (lcl_own (ar.map fun x => (ar.cons lcl_val ar.nil))) (ar.cons lcl_val (ar.cons (lcl_own (ar.map fun x => (ar.cons lcl_val ar.nil))) (ar.cons lcl_val (ar.cons lcl_val (ar.cons lcl_val (ar.cons (lcl_own (ar.map fun x => (ar.cons lcl_val (ar.cons (lcl_own (ar.map fun x => (ar.cons lcl_val ar.nil))) ar.nil)))) ar.nil))))))))))) fun uu900 cp900 jk900 hlD900 hcp900 hjk900 => ?_
 rw [aw] at hlD900 hcp900 hjk900
 refine cV (d := 900) (by exact rfl) (show _ = bE (aT aD ab ab aE ab) (e.aez) jk900 from rfl) ?_
 refine sO [(1, _), (2, _), (4, _), (5, _), (6, _), (7, _), (2900, _)] [(2, _), (4, _), (6, (32, [sl _ _, val _, val _, sl _ _, val _, sl _ _, sl _ _, val _])), (900, (108, bE (aT aD ab ab aE ab) _ _))] ?_
 refine Vu (d := 900) (G := 4900) (e := 10) (f := (aT aD ab ab aE ab)) (g := (fun z : aez => [val (vI z.aeA.Id), val (vI z.aeA.aeE), sl .v (z.aeA.aeB.map bH), sl .v (z.aeA.Out.map am), val (vI z.Time), sl .v (z.aeI.map am), val (vI z.Age), val (vI z.Sent), val (vI z.Cap), sl .v (z.Rows.map (bI ab))])) (fN := ff) (by exact rfl) (by exact rfl) (fun _ _ => rfl) (fun _ => rfl) (fun _ => (ak (ak (aB (aB (ak (aB (ak (ak (ak (aB ao.nil))))))))))) (fun _ => (by exact lq)) fun zs900 hz900 => ?_
 refine sO [(1, _), (2, _), (4, _), (5, _), (6, _), (7, _), (2900, _), (4900, _)] [(2, _), (4, _), (6, _), (900, (108, bE ff _ _))] ?_
 refine da cG ?_
 refine dA 0 ?_ (x := lF ee)
 refine dA 1 ?_ (x := lD [val _] dR)
 refine dA 0 ?_ (x := sM)
 refine dA 7 ?_ (x := IB (G := 2900) (i := 0) (j := i) (q := (0 : Int)) (by decide) cg (by exact rfl) (by exact tI) (by rfl) (by omega) (by omega) (by rw [aw]; omega))
 refine dA 0 ?_ (x := lF ee)
 refine dA 16 ?_ (x := lD [val _] dR)
 refine dA 0 ?_ (x := sM)
 refine dA 64 ?_ (x := jm)
 refine dA 240 ?_ (x := IB (G := 2900) (i := (i + 1)) (j := (e.aez.map (aT aD ab ab aE ab)).length) (r := (((e.aez.map (aT aD ab ab aE ab)).length : Nat) : Int)) (by decide) cg (by exact tI) (by exact rfl) (by omega) (by rfl) (by rw [aw]; omega) (by omega))
 refine dA 511 ?_ (x := VX (G := 2900) (D := 900) (i := i) (g := (fun z : aez => [val (vI z.aeA.Id), val (vI z.aeA.aeE), sl .v (z.aeA.aeB.map bH), sl .v (z.aeA.Out.map am), val (vI z.Time), sl .v (z.aeI.map am), val (vI z.Age), val (vI z.Sent), val (vI z.Cap), sl .v (z.Rows.map (bI ab))])) (fN := ff) (by decide) cg (by decide) (fun _ _ => rfl) (fun _ => rfl) (fun _ => (by exact lq)) (by rw [aw, ← hz900, aw]) (by rw [aw]; exact hi) (by rw [aw]; exact hjk900) (by exact rfl))
 refine dA 1023 ?_ (x := lF ee)
 refine dA 2047 ?_ (x := bh (ag := false) (vs := [val _]) dR (by exact tI) (by exact rfl) (by exact nl rfl))
 refine VR (d := 900) (G := 4900) (e := 10) (f := (aT aD ab ab aE ab)) (g := (fun z : aez => [val (vI z.aeA.Id), val (vI z.aeA.aeE), sl .v (z.aeA.aeB.map bH), sl .v (z.aeA.Out.map am), val (vI z.Time), sl .v (z.aeI.map am), val (vI z.Age), val (vI z.Sent), val (vI z.Cap), sl .v (z.Rows.map (bI ab))])) (fN := ff) [zs900[i]'(by rw [← hz900, aw] at hi; exact hi)] (eE e.aez i) (by exact rfl) (by exact rfl) (fun _ _ => rfl) (fun _ => rfl) (fun _ => rfl) (by exact Gm (by rw [← hz900, aw] at hi; exact hi)) (by exact SG hz900) ?_
 refine nX (d := 6) (D := 900) (G := 2900) (e := 10) (A := [sl _ _, val _, val _, sl _ _]) (B := [sl _ _, sl _ _, val _]) (es := ((eE e.aez i)).map (aT aD ab ab aE ab)) (by exact rfl) (by exact rfl) (by exact rfl) rfl (by rw [aw, hdl, aw]) (by intro c hc; obtain ⟨y, _, rfl⟩ := List.mem_map.1 hc; exact rfl) (by exact VW (by rw [aw, ← hz900, aw]) (by rw [aw]; omega) (by rw [aw]; exact hjk900)) ?_
 refine be ?_
 refine OI ?_
 refine wA ?_ (x := cP (ms := [sl _ _, val _, val _, sl _ _, sl _ _, sl _ _, sl _ _, val _]) (qs := [any, val _, val _, any, any, any, any, val _]) (by decide) bU (fun h => nomatch h) (by exact nl rfl) (by exact rfl) (by exact (ao.cons PV.to_any (ak (ak (ao.cons PV.to_any (ao.cons PV.to_any (ao.cons PV.to_any (ao.cons PV.to_any (ak ao.nil))))))))) (by exact lq))
 refine wO [(1, _), (2, _), (4, _), (5, _), (6, _), (7, _), (32, _)] [(2, _), (4, _), (6, (32, [any, val _, val _, any, any, any, any, val _]))] ?_
 refine Bx (L := (Lw w0.heap.size)) (qs := [(true, [sl _ _, val _, val _, sl _ _, sl _ _, sl _ _, sl _ _, val _])]) (as_ := [(true, [sl _ _, val _, val _, sl _ _, sl _ _, sl _ _, sl _ _, val _])]) (by decide) ES (by exact ⟨rfl, ⟨⟩⟩) (by exact (aI (by exact tI) tI)) (by decide) (by exact lq) (by exact (GP (e := qa e i) (by omega))) (fun x hx => hx) (by exact lq) (by exact lq) ?_
 refine wA ?_ (x := bh (ag := true) (vs := [sl _ _, val _, val _, sl _ _, sl _ _, sl _ _, sl _ _, val _]) bU (by exact tI) (by exact rfl) (by exact nl rfl))
 refine wA ?_ (x := kA)
 refine pi ?_
 exact Lb
def adC {p1 p2 p5 p6 p7 p8 p9 p11 p12 p13 p14 p16 p17 p18 : Fl} {e : aA} {id : Int}  (hb : bp e ≤ 68719000000) : aN Tryz.prog 88 [(true, [sl .v (e.Store.aey.map (aG p1 p2)), val (vI e.Store.Now), val (vI e.aeD), sl .v (e.Order.map am), sl .v (e.aez.map (aT p5 p6 p7 p8 p9)), sl .v (e.Done.map (bn p11 p12 p13 p14)), sl .v (e.aeL.map (bl p16 p17 p18)), val (vI e.Steps)]), (false, [val (vI id)])] (aJ [(true, [sl bz ((cK e id).1.Store.aey.map (aG aV ab)), val (vI (cK e id).1.Store.Now), val (vI (cK e id).1.aeD), sl ab ((cK e id).1.Order.map am), sl ce ((cK e id).1.aez.map (aT aD ab ab aE ab)), sl bT ((cK e id).1.Done.map (bn aD ab aE ab)), sl bY ((cK e id).1.aeL.map (bl ab ab ab)), val (vI (cK e id).1.Steps)]), (false, [val (.bool (cK e id).2)])]) := by
 refine mq (largs := fun L => [(true, [sl (.lo L) (e.Store.aey.map (aG (.lo L) (.lo L))), val (vI e.Store.Now), val (vI e.aeD), sl (.lo L) (e.Order.map am), sl (.lo L) (e.aez.map (aT (.lo L) (.lo L) (.lo L) (.lo L) (.lo L))), sl (.lo L) (e.Done.map (bn (.lo L) (.lo L) (.lo L) (.lo L))), sl (.lo L) (e.aeL.map (bl (.lo L) (.lo L) (.lo L))), val (vI e.Steps)]), (false, [val (vI id)])]) (rs := [(true, [sl bz ((cK e id).1.Store.aey.map (aG aV ab)), val (vI (cK e id).1.Store.Now), val (vI (cK e id).1.aeD), sl ab ((cK e id).1.Order.map am), sl ce ((cK e id).1.aez.map (aT aD ab ab aE ab)), sl bT ((cK e id).1.Done.map (bn aD ab aE ab)), sl bY ((cK e id).1.aeL.map (bl ab ab ab)), val (vI (cK e id).1.Steps)]), (false, [val (.bool (cK e id).2)])]) Tryz.func88 rfl (nl rfl) (fun L => by exact (aI (aI rfl (ae.cons (aP (fun _ => nl rfl) (fun _ => (ae.cons (aP (fun _ => nl rfl) (fun _ => (ae.cons av (ae.cons (aP (fun _ => nl rfl) (fun _ => (ae.cons av ae.nil))) (ae.cons av (ae.cons av ae.nil)))))) ae.nil))) (ae.cons av (ae.cons av (ae.cons (aP (fun _ => nl rfl) (fun _ => (ae.cons av ae.nil))) (ae.cons (aP (fun _ => nl rfl) (fun _ => (ae.cons av (ae.cons av (ae.cons (aP (fun _ => nl rfl) (fun _ => (ae.cons av (ae.cons av (ae.cons av ae.nil))))) (ae.cons (aP (fun _ => nl rfl) (fun _ => (ae.cons av ae.nil))) (ae.cons av (ae.cons (aP (fun _ => nl rfl) (fun _ => (ae.cons av ae.nil))) (ae.cons av (ae.cons av (ae.cons av (ae.cons (aP (fun _ => nl rfl) (fun _ => (ae.cons av (ae.cons (aP (fun _ => nl rfl) (fun _ => (ae.cons av ae.nil))) ae.nil)))) ae.nil)))))))))))) (ae.cons (aP (fun _ => nl rfl) (fun _ => (ae.cons av (ae.cons av (ae.cons (aP (fun _ => nl rfl) (fun _ => (ae.cons av (ae.cons av (ae.cons av ae.nil))))) (ae.cons (aP (fun _ => nl rfl) (fun _ => (ae.cons av ae.nil))) (ae.cons av (ae.cons av (ae.cons (aP (fun _ => nl rfl) (fun _ => (ae.cons av (ae.cons (aP (fun _ => nl rfl) (fun _ => (ae.cons av ae.nil))) ae.nil)))) ae.nil))))))))) (ae.cons (aP (fun _ => nl rfl) (fun _ => (ae.cons av (ae.cons av (ae.cons (aP (fun _ => nl rfl) (fun _ => (ae.cons av ae.nil))) (ae.cons (aP (fun _ => nl rfl) (fun _ => (ae.cons av ae.nil))) (ae.cons (aP (fun _ => nl rfl) (fun _ => (ae.cons av ae.nil))) ae.nil))))))) (ae.cons av ae.nil))))))))) (aI (aI rfl (ae.cons av ae.nil)) tI))) (fun L => by exact lq) ?_
 intro w0 Fz0
 refine sn 0 0 fun hl0_0 => ?_
 refine sn 0 3 fun hl0_3 => ?_
 refine sn 0 4 fun hl0_4 => ?_
 refine sn 0 5 fun hl0_5 => ?_
 refine sn 0 6 fun hl0_6 => ?_
 have hbu := hb
 simp only [bp, fB, fC, fV] at hbu
 refine va ?_
 refine NF ?_
 refine CI ?_
 refine ob ?_
 refine OR ?_
 refine og ?_
 refine rM ?_
 refine rA ?_ (x := cL [(true, [sl (.lo _) _, val _, val _, sl (.lo _) _, sl (.lo _) _, sl (.lo _) _, sl (.lo _) _, val _]), (false, [val _])] [(true, [sl .v _, val _, val _, sl .v _, sl .v _, sl .v _, sl .v _, val _]), (false, [val _])] Ad (hs := by exact AS))
 refine hZ ?_
 refine OP ?_
 refine Nr ?_
 refine cx 16 (fun ga sga => ?_) (fun ga sga => ?_)
 exact La
 refine vJ ?_
 refine rA ?_ (x := aF ga)
 refine sc ?_ ?_ <;> intro hba
 exact Cg
 have hoe : aX e = true := by simp_all
 have hge : 0 ≤ dy e.aez id := by first | omega | (simp_all; omega)
 have hok : jG e id = true := by unfold jG; rw [hoe, decide_eq_true hge]; rfl
 obtain ⟨i, hi, hf⟩ := Gl hge
 have hef := gW hoe
 have hdw := Gn hi
 have hdl := BK hi
 refine eG ?_
 refine sP [1, 2, 4, 5, 6, 7] [2, 4, 6] ?_
 refine sk (d := 6) (t := 108) (e := 10) (G := 6200) (A := [sl _ _, val _, val _, sl _ _]) (B := [sl _ _, sl _ _, val _]) (f := (aT aD ab ab aE ab)) (g := (fun z : aez => [val (vI z.aeA.Id), val (vI z.aeA.aeE), sl .v (z.aeA.aeB.map bH), sl .v (z.aeA.Out.map am), val (vI z.Time), sl .v (z.aeI.map am), val (vI z.Age), val (vI z.Sent), val (vI z.Cap), sl .v (z.Rows.map (bI ab))])) (fN := ff) (xs := e.aez) (by exact rfl) (by exact rfl) (fun _ _ => rfl) (fun _ => rfl) (fun _ => (ak (ak (aB (aB (ak (aB (ak (ak (ak (aB ao.nil))))))))))) (fun _ => (by exact lq)) fun za hza => ?_
 have hzal : za.length = e.aez.length := by rw [← aw (f := Prod.fst), hza]
 refine sO [(1, _), (2, _), (4, _), (5, _), (6, _), (7, _), (6200, _)] [(2, _), (4, _), (6, (32, [sl _ _, val _, val _, sl _ _, sl _ _, sl _ _, sl _ _, val _]))] ?_
 refine da cG ?_
 refine dA 0 ?_ (x := bP (qs := []) (by decide) cg gI (by decide) rfl rfl rfl rfl rfl (by exact nl rfl) (by exact tI) rfl)
 refine dA 0 ?_ (x := lF ee)
 refine dA 2 ?_ (x := lD [sl .v _] dR)
 refine dA 0 ?_ (x := sM)
 refine dA 14 ?_ (x := se (i := 0) (j := i) (ys := (za.take i)) (q := (0 : Int)) (by decide) cg (by exact rfl) (by exact tI) (by rfl) (by omega) (by omega) (by omega) (fun _ => rfl) (by simp))
 refine dA 31 ?_ (x := it (by decide) cg gI rfl rfl (by decide) (by intro cs hcs; obtain ⟨x, _, rfl⟩ := List.mem_map.1 hcs; exact rfl) (by intro cs hcs; obtain ⟨x, _, rfl⟩ := List.mem_map.1 hcs; exact (by exact lq)) (by simp only [aw, aM, List.length_cons, List.length_nil, fH, bv]; omega) (by simp only [aw, aM, List.length_cons, List.length_nil, fH, bv]; omega))
 refine dA 0 ?_ (x := lF ee)
 refine dA 64 ?_ (x := lD [sl .v _] dR)
 refine dA 0 ?_ (x := sM)
 refine dA 256 ?_ (x := jm)
 refine dA 960 ?_ (x := se (i := (i + 1)) (j := za.length) (ys := (za.drop (i + 1))) (r := ((za.length : Nat) : Int)) (by decide) cg (by exact tI) (by exact rfl) (by omega) (by rfl) (by omega) (by omega) (fun _ => rfl) (by rw [cj]))
 refine dA 2047 ?_ (x := it (by decide) cg gI rfl rfl (by decide) (by intro cs hcs; obtain ⟨x, _, rfl⟩ := List.mem_map.1 hcs; exact rfl) (by intro cs hcs; obtain ⟨x, _, rfl⟩ := List.mem_map.1 hcs; exact (by exact lq)) (by simp only [aw, aM, List.length_cons, List.length_nil, fH, bv]; omega) (by simp only [aw, aM, List.length_cons, List.length_nil, fH, bv]; omega))
 refine dA 4095 ?_ (x := lF ee)
 refine dA 8191 ?_ (x := bh (ag := false) (vs := [sl _ _]) dR (by exact tI) (by exact rfl) (by exact nl rfl))
 refine be ?_
 refine sO [(1, _), (2, _), (4, _), (5, _), (6, _), (7, _), (6200, _)] [(2, _), (4, _), (6, (32, [sl _ _, val _, val _, sl _ _, sl _ _, sl _ _, sl _ _, val _]))] ?_
 refine cV (d := 6) (by exact rfl) (show _ = [sl bz (e.Store.aey.map (aG aV ab)), val (vI e.Store.Now), val (vI e.aeD), sl ab (e.Order.map am), sl ce ((eE za i).map ff), sl bT (e.Done.map (bn aD ab aE ab)), sl bY (e.aeL.map (bl ab ab ab)), val (vI e.Steps)] from by unfold eE; simp only [bj]; exact rfl) ?_
 refine sP [1, 2, 4, 5, 6, 7, 6200] [2, 4, 6] ?_
 refine BH (d := 6) (t := 108) (e := 10) (G := 6200) (A := [sl _ _, val _, val _, sl _ _]) (B := [sl _ _, sl _ _, val _]) (f := (aT aD ab ab aE ab)) (g := (fun z : aez => [val (vI z.aeA.Id), val (vI z.aeA.aeE), sl .v (z.aeA.aeB.map bH), sl .v (z.aeA.Out.map am), val (vI z.Time), sl .v (z.aeI.map am), val (vI z.Age), val (vI z.Sent), val (vI z.Cap), sl .v (z.Rows.map (bI ab))])) (fN := ff) (ys := (eE za i)) [za[i]] (eE e.aez i) (by exact rfl) (by exact rfl) (fun _ _ => rfl) (fun _ => rfl) (fun _ => rfl) (Gm (by omega)) (SG hza) ?_
 refine OI ?_
 refine wO [(1, _), (2, _), (4, _), (5, _), (6, _), (7, _)] [(2, _), (4, _), (6, _)] ?_
 refine uM (bx := 6) (L := (Lw w0.heap.size)) (qs := []) (as_ := []) (by decide) EU rfl (by exact rfl) (by exact rfl) (by exact tI) (by exact tI) (by decide) (by exact tI) (by exact (GQ (e := qa e i) (by omega))) (fun x hx => hx) (by exact lq) (by exact lq) ?_
 refine pi ?_
 refine be ?_
 refine sO [(1, _), (2, _), (4, _), (5, _), (6, _), (7, _)] [(2, _), (4, _), (6, (32, [sl _ _, val _, val _, sl _ _, sl _ _, sl _ _, sl _ _, val _]))] ?_
 refine tB ?_
 refine rK ?_
 exact Lb
end Go.Proofs.YtmekkgdboplbjaaGreat
