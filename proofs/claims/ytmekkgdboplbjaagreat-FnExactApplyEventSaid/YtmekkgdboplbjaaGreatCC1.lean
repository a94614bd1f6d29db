/- What functions of the program compute. No condition. -/
import Derived.Test.YtmekkgdboplbjaaGreatCA1
import Derived.Test.YtmekkgdboplbjaaGreatCX0
set_option linter.all false
namespace Go.Proofs.YtmekkgdboplbjaaGreat
open Go Go.RowKit M PV
set_option maxRecDepth 10000
attribute [local irreducible] PV.Lcl PV.LclR RV.Lcl
set_option maxHeartbeats 8000000
def VF {p1 p2 p5 p6 p7 p8 p9 p11 p12 p13 p14 p16 p17 p18 : Fl} {e : aL} {id : Int}  (hb : bp e ≤ 68719000000) : aC Tryz.prog 84 [(true, [sl .v (e.Store.Wr.map (aD p1 p2)), val (vI e.Store.Now), val (vI e.Ww), sl .v (e.Order.map ak), sl .v (e.Ws.map (aO p5 p6 p7 p8 p9)), sl .v (e.Done.map (aZ p11 p12 p13 p14)), sl .v (e.WE.map (a7 p16 p17 p18)), val (vI e.Steps)]), (false, [val (vI id)])] (az [(true, [sl bo ((cB e id).1.Store.Wr.map (aD aS aa)), val (vI (cB e id).1.Store.Now), val (vI (cB e id).1.Ww), sl aa ((cB e id).1.Order.map ak), sl bS ((cB e id).1.Ws.map (aO ay aa aa aB aa)), sl bM ((cB e id).1.Done.map (aZ ay aa aB aa)), sl bP ((cB e id).1.WE.map (a7 aa aa aa)), val (vI (cB e id).1.Steps)]), (false, [val (.bool (cB e id).2)])]) := by
 refine j3 (largs := fun L => [(true, [sl (.lo L) (e.Store.Wr.map (aD (.lo L) (.lo L))), val (vI e.Store.Now), val (vI e.Ww), sl (.lo L) (e.Order.map ak), sl (.lo L) (e.Ws.map (aO (.lo L) (.lo L) (.lo L) (.lo L) (.lo L))), sl (.lo L) (e.Done.map (aZ (.lo L) (.lo L) (.lo L) (.lo L))), sl (.lo L) (e.WE.map (a7 (.lo L) (.lo L) (.lo L))), val (vI e.Steps)]), (false, [val (vI id)])]) (rs := [(true, [sl bo ((cB e id).1.Store.Wr.map (aD aS aa)), val (vI (cB e id).1.Store.Now), val (vI (cB e id).1.Ww), sl aa ((cB e id).1.Order.map ak), sl bS ((cB e id).1.Ws.map (aO ay aa aa aB aa)), sl bM ((cB e id).1.Done.map (aZ ay aa aB aa)), sl bP ((cB e id).1.WE.map (a7 aa aa aa)), val (vI (cB e id).1.Steps)]), (false, [val (.bool (cB e id).2)])]) Tryz.func84 rfl (nl rfl) (fun L => by exact (aI (aI rfl (ab.cons (aM (fun _ => nl rfl) (fun _ => (ab.cons (aM (fun _ => nl rfl) (fun _ => (ab.cons ap (ab.cons (aM (fun _ => nl rfl) (fun _ => (ab.cons ap ab.nil))) (ab.cons ap (ab.cons ap ab.nil)))))) ab.nil))) (ab.cons ap (ab.cons ap (ab.cons (aM (fun _ => nl rfl) (fun _ => (ab.cons ap ab.nil))) (ab.cons (aM (fun _ => nl rfl) (fun _ => (ab.cons ap (ab.cons ap (ab.cons (aM (fun _ => nl rfl) (fun _ => (ab.cons ap (ab.cons ap (ab.cons ap ab.nil))))) (ab.cons (aM (fun _ => nl rfl) (fun _ => (ab.cons ap ab.nil))) (ab.cons ap (ab.cons (aM (fun _ => nl rfl) (fun _ => (ab.cons ap ab.nil))) (ab.cons ap (ab.cons ap (ab.cons ap (ab.cons (aM (fun _ => nl rfl) (fun _ => (ab.cons ap (ab.cons (aM (fun _ => nl rfl) (fun _ => (ab.cons ap ab.nil))) ab.nil)))) ab.nil)))))))))))) (ab.cons (aM (fun _ => nl rfl) (fun _ => (ab.cons ap (ab.cons ap (ab.cons (aM (fun _ => nl rfl) (fun _ => (ab.cons ap (ab.cons ap (ab.cons ap ab.nil))))) (ab.cons (aM (fun _ => nl rfl) (fun _ => (ab.cons ap ab.nil))) (ab.cons ap (ab.cons ap (ab.cons (aM (fun _ => nl rfl) (fun _ => (ab.cons ap (ab.cons (aM (fun _ => nl rfl) (fun _ => (ab.cons ap ab.nil))) ab.nil)))) ab.nil))))))))) (ab.cons (aM (fun _ => nl rfl) (fun _ => (ab.cons ap (ab.cons ap (ab.cons (aM (fun _ => nl rfl) (fun _ => (ab.cons ap ab.nil))) (ab.cons (aM (fun _ => nl rfl) (fun _ => (ab.cons ap ab.nil))) (ab.cons (aM (fun _ => nl rfl) (fun _ => (ab.cons ap ab.nil))) ab.nil))))))) (ab.cons ap ab.nil))))))))) (aI (aI rfl (ab.cons ap ab.nil)) tI))) (fun L => by exact lq) ?_
 intro w0 Fz0
 refine sn 0 0 fun hl0_0 => ?_
 refine sn 0 3 fun hl0_3 => ?_
 refine sn 0 4 fun hl0_4 => ?_
 refine sn 0 5 fun hl0_5 => ?_
 refine sn 0 6 fun hl0_6 => ?_
 have hbu := hb
 simp only [bp, c6, dK, dJ] at hbu
 refine qD ?_
 refine G8 ?_
 refine yD ?_
 refine mp ?_
 refine H8 ?_
 refine mr ?_
 refine rM ?_
 refine GQ ?_
 refine H6 ?_
 refine yE ?_
 refine cx 16 (fun ga sga => ?_) (fun ga sga => ?_)
 exact Ff
 refine vv ?_
 refine rA ?_ (x := aK ga)
 refine sc (fun hba => ?_) (fun hba => ?_)
 exact yg
 have hoe : bh e = true := by simp_all
 have hge : 0 ≤ dn e.Ws id := by first | omega | (simp_all; omega)
 have hok : jG e id = true := by unfold jG; rw [hoe, decide_eq_true hge]; rfl
 obtain ⟨i, hi, hf⟩ := BD hge
 have hef := gI hoe
 have hdw := BF hi
 have hdl := xP hi
 refine cO ?_
 refine sP [1, 2, 4, 5, 6, 7] [2, 4, 6] ?_
 refine iO (d := 6) (t := 32) (D := 900) (G := 2900) (E := 108) (e := 10) (L := (Lw w0.heap.size)) (A := [sl _ _, val _, val _, sl _ _]) (B := [sl _ _, sl _ _, val _]) (es := (e.Ws).map (aO ay aa aa aB aa)) (by exact rfl) (hP hi) (by exact rfl) (by exact rfl) rfl (by exact rfl) (fun x hx => hx) (by exact lq) (by exact lq) (by exact lq) (by exact lq) (ai.map fun x => (ai.cons lcl_val (ai.cons lcl_val (ai.cons (lcl_own (ai.map fun x => (ai.cons lcl_val (ai.cons lcl_val (ai.cons lcl_val ai.nil))))) (ai.cons (lcl_own (ai.map fun x => (ai.cons lcl_val ai.nil))) (ai.cons lcl_val (ai.cons (lcl_own (ai.map fun x => (ai.cons lcl_val ai.nil))) (ai.cons lcl_val (ai.cons lcl_val (ai.cons lcl_val (ai.cons (lcl_own (ai.map fun x => (ai.cons lcl_val (ai.cons (lcl_own (ai.map fun x => (ai.cons lcl_val ai.nil))) ai.nil)))) ai.nil))))))))))) fun uu900 cp900 jk900 hlD900 hcp900 hjk900 => ?_
 rw [ar] at hlD900 hcp900 hjk900
 refine bV (d := 900) (by exact rfl) (show _ = bA (aO ay aa aa aB aa) (e.Ws) jk900 from rfl) ?_
 refine sO [(1, _), (2, _), (4, _), (5, _), (6, _), (7, _), (2900, _)] [(2, _), (4, _), (6, (32, [sl _ _, val _, val _, sl _ _, val _, sl _ _, sl _ _, val _])), (900, (108, bA (aO ay aa aa aB aa) _ _))] ?_
 refine Np (d := 900) (G := 4900) (e := 10) (f := (aO ay aa aa aB aa)) (g := (fun z : Ws => [val (vI z.Wt.Id), val (vI z.Wt.Wx), sl .v (z.Wt.Wu.map bf), sl .v (z.Wt.Out.map ak), val (vI z.Time), sl .v (z.WB.map ak), val (vI z.Age), val (vI z.Sent), val (vI z.Cap), sl .v (z.Rows.map (bu aa))])) (fN := en) (by exact rfl) (by exact rfl) (fun _ _ => rfl) (fun _ => rfl) (fun _ => (an (an (aF (aF (an (aF (an (an (an (aF am.nil))))))))))) (fun _ => (by exact lq)) fun zs900 hz900 => ?_
 refine sO [(1, _), (2, _), (4, _), (5, _), (6, _), (7, _), (2900, _), (4900, _)] [(2, _), (4, _), (6, _), (900, (108, bA en _ _))] ?_
 refine db cJ ?_
 refine dA 0 ?_ (x := lF dN)
 refine dA 1 ?_ (x := lD [val _] dC)
 refine dA 0 ?_ (x := sM)
 refine dA 7 ?_ (x := Dn (G := 2900) (i := 0) (j := i) (q := (0 : Int)) (by decide) bI (by exact rfl) (by exact tI) (by rfl) (by omega) (by omega) (by rw [ar]; omega))
 refine dA 0 ?_ (x := lF dN)
 refine dA 16 ?_ (x := lD [val _] dC)
 refine dA 0 ?_ (x := sM)
 refine dA 64 ?_ (x := j4)
 refine dA 240 ?_ (x := Dn (G := 2900) (i := (i + 1)) (j := (e.Ws.map (aO ay aa aa aB aa)).length) (r := (((e.Ws.map (aO ay aa aa aB aa)).length : Nat) : Int)) (by decide) bI (by exact tI) (by exact rfl) (by omega) (by rfl) (by rw [ar]; omega) (by omega))
 refine dA 511 ?_ (x := NN (G := 2900) (D := 900) (i := i) (g := (fun z : Ws => [val (vI z.Wt.Id), val (vI z.Wt.Wx), sl .v (z.Wt.Wu.map bf), sl .v (z.Wt.Out.map ak), val (vI z.Time), sl .v (z.WB.map ak), val (vI z.Age), val (vI z.Sent), val (vI z.Cap), sl .v (z.Rows.map (bu aa))])) (fN := en) (by decide) bI (by decide) (fun _ _ => rfl) (fun _ => rfl) (fun _ => (by exact lq)) (by rw [ar, ← hz900, ar]) (by rw [ar]; exact hi) (by rw [ar]; exact hjk900) (by exact rfl))
 refine dA 1023 ?_ (x := lF dN)
 refine dA 2047 ?_ (x := bd (ag := false) (vs := [val _]) dC (by exact tI) (by exact rfl) (by exact nl rfl))
 refine NH (d := 900) (G := 4900) (e := 10) (f := (aO ay aa aa aB aa)) (g := (fun z : Ws => [val (vI z.Wt.Id), val (vI z.Wt.Wx), sl .v (z.Wt.Wu.map bf), sl .v (z.Wt.Out.map ak), val (vI z.Time), sl .v (z.WB.map ak), val (vI z.Age), val (vI z.Sent), val (vI z.Cap), sl .v (z.Rows.map (bu aa))])) (fN := en) [zs900[i]'(by rw [← hz900, ar] at hi; exact hi)] (eY e.Ws i) (by exact rfl) (by exact rfl) (fun _ _ => rfl) (fun _ => rfl) (fun _ => rfl) (by exact BE (by rw [← hz900, ar] at hi; exact hi)) (by exact LY hz900) ?_
 refine mi (d := 6) (D := 900) (G := 2900) (e := 10) (A := [sl _ _, val _, val _, sl _ _]) (B := [sl _ _, sl _ _, val _]) (es := ((eY e.Ws i)).map (aO ay aa aa aB aa)) (by exact rfl) (by exact rfl) (by exact rfl) rfl (by rw [ar, hdl, ar]) (by intro c hc; obtain ⟨y, _, rfl⟩ := List.mem_map.1 hc; exact rfl) (by exact NM (by rw [ar, ← hz900, ar]) (by rw [ar]; omega) (by rw [ar]; exact hjk900)) ?_
 refine aP ?_
 refine HY ?_
 refine wA ?_ (x := cl (ms := [sl _ _, val _, val _, sl _ _, sl _ _, sl _ _, sl _ _, val _]) (qs := [any, val _, val _, any, any, any, any, val _]) (by decide) bZ (fun h => nomatch h) (by exact nl rfl) (by exact rfl) (by exact (am.cons PV.to_any (an (an (am.cons PV.to_any (am.cons PV.to_any (am.cons PV.to_any (am.cons PV.to_any (an am.nil))))))))) (by exact lq))
 refine wO [(1, _), (2, _), (4, _), (5, _), (6, _), (7, _), (32, _)] [(2, _), (4, _), (6, (32, [any, val _, val _, any, any, any, any, val _]))] ?_
 refine xG (L := (Lw w0.heap.size)) (qs := [(true, [sl _ _, val _, val _, sl _ _, sl _ _, sl _ _, sl _ _, val _])]) (as_ := [(true, [sl _ _, val _, val _, sl _ _, sl _ _, sl _ _, sl _ _, val _])]) (by decide) AY (by exact ⟨rfl, ⟨⟩⟩) (by exact (aI (by exact tI) tI)) (by decide) (by exact lq) (by exact (BU (e := oz e i) (by omega))) (fun x hx => hx) (by exact lq) (by exact lq) ?_
 refine wA ?_ (x := bd (ag := true) (vs := [sl _ _, val _, val _, sl _ _, sl _ _, sl _ _, sl _ _, val _]) bZ (by exact tI) (by exact rfl) (by exact nl rfl))
 refine wA ?_ (x := kA)
 refine dg ?_
 exact Fg
def VG {p1 p2 p5 p6 p7 p8 p9 p11 p12 p13 p14 p16 p17 p18 : Fl} {e : aL} {id : Int}  (hb : bp e ≤ 68719000000) : aC Tryz.prog 88 [(true, [sl .v (e.Store.Wr.map (aD p1 p2)), val (vI e.Store.Now), val (vI e.Ww), sl .v (e.Order.map ak), sl .v (e.Ws.map (aO p5 p6 p7 p8 p9)), sl .v (e.Done.map (aZ p11 p12 p13 p14)), sl .v (e.WE.map (a7 p16 p17 p18)), val (vI e.Steps)]), (false, [val (vI id)])] (az [(true, [sl bo ((cB e id).1.Store.Wr.map (aD aS aa)), val (vI (cB e id).1.Store.Now), val (vI (cB e id).1.Ww), sl aa ((cB e id).1.Order.map ak), sl bS ((cB e id).1.Ws.map (aO ay aa aa aB aa)), sl bM ((cB e id).1.Done.map (aZ ay aa aB aa)), sl bP ((cB e id).1.WE.map (a7 aa aa aa)), val (vI (cB e id).1.Steps)]), (false, [val (.bool (cB e id).2)])]) := by
 refine j3 (largs := fun L => [(true, [sl (.lo L) (e.Store.Wr.map (aD (.lo L) (.lo L))), val (vI e.Store.Now), val (vI e.Ww), sl (.lo L) (e.Order.map ak), sl (.lo L) (e.Ws.map (aO (.lo L) (.lo L) (.lo L) (.lo L) (.lo L))), sl (.lo L) (e.Done.map (aZ (.lo L) (.lo L) (.lo L) (.lo L))), sl (.lo L) (e.WE.map (a7 (.lo L) (.lo L) (.lo L))), val (vI e.Steps)]), (false, [val (vI id)])]) (rs := [(true, [sl bo ((cB e id).1.Store.Wr.map (aD aS aa)), val (vI (cB e id).1.Store.Now), val (vI (cB e id).1.Ww), sl aa ((cB e id).1.Order.map ak), sl bS ((cB e id).1.Ws.map (aO ay aa aa aB aa)), sl bM ((cB e id).1.Done.map (aZ ay aa aB aa)), sl bP ((cB e id).1.WE.map (a7 aa aa aa)), val (vI (cB e id).1.Steps)]), (false, [val (.bool (cB e id).2)])]) Tryz.func88 rfl (nl rfl) (fun L => by exact (aI (aI rfl (ab.cons (aM (fun _ => nl rfl) (fun _ => (ab.cons (aM (fun _ => nl rfl) (fun _ => (ab.cons ap (ab.cons (aM (fun _ => nl rfl) (fun _ => (ab.cons ap ab.nil))) (ab.cons ap (ab.cons ap ab.nil)))))) ab.nil))) (ab.cons ap (ab.cons ap (ab.cons (aM (fun _ => nl rfl) (fun _ => (ab.cons ap ab.nil))) (ab.cons (aM (fun _ => nl rfl) (fun _ => (ab.cons ap (ab.cons ap (ab.cons (aM (fun _ => nl rfl) (fun _ => (ab.cons ap (ab.cons ap (ab.cons ap ab.nil))))) (ab.cons (aM (fun _ => nl rfl) (fun _ => (ab.cons ap ab.nil))) (ab.cons ap (ab.cons (aM (fun _ => nl rfl) (fun _ => (ab.cons ap ab.nil))) (ab.cons ap (ab.cons ap (ab.cons ap (ab.cons (aM (fun _ => nl rfl) (fun _ => (ab.cons ap (ab.cons (aM (fun _ => nl rfl) (fun _ => (ab.cons ap ab.nil))) ab.nil)))) ab.nil)))))))))))) (ab.cons (aM (fun _ => nl rfl) (fun _ => (ab.cons ap (ab.cons ap (ab.cons (aM (fun _ => nl rfl) (fun _ => (ab.cons ap (ab.cons ap (ab.cons ap ab.nil))))) (ab.cons (aM (fun _ => nl rfl) (fun _ => (ab.cons ap ab.nil))) (ab.cons ap (ab.cons ap (ab.cons (aM (fun _ => nl rfl) (fun _ => (ab.cons ap (ab.cons (aM (fun _ => nl rfl) (fun _ => (ab.cons ap ab.nil))) ab.nil)))) ab.nil))))))))) (ab.cons (aM (fun _ => nl rfl) (fun _ => (ab.cons ap (ab.cons ap (ab.cons (aM (fun _ => nl rfl) (fun _ => (ab.cons ap ab.nil))) (ab.cons (aM (fun _ => nl rfl) (fun _ => (ab.cons ap ab.nil))) (ab.cons (aM (fun _ => nl rfl) (fun _ => (ab.cons ap ab.nil))) ab.nil))))))) (ab.cons ap ab.nil))))))))) (aI (aI rfl (ab.cons ap ab.nil)) tI))) (fun L => by exact lq) ?_
 intro w0 Fz0
 refine sn 0 0 fun hl0_0 => ?_
 refine sn 0 3 fun hl0_3 => ?_
 refine sn 0 4 fun hl0_4 => ?_
 refine sn 0 5 fun hl0_5 => ?_
 refine sn 0 6 fun hl0_6 => ?_
 have hbu := hb
 simp only [bp, c6, dK, dJ] at hbu
 refine qD ?_
 refine G8 ?_
 refine yF ?_
 refine mp ?_
 refine H8 ?_
 refine mr ?_
 refine rM ?_
 refine rA ?_ (x := cL [(true, [sl (.lo _) _, val _, val _, sl (.lo _) _, sl (.lo _) _, sl (.lo _) _, sl (.lo _) _, val _]), (false, [val _])] [(true, [sl .v _, val _, val _, sl .v _, sl .v _, sl .v _, sl .v _, val _]), (false, [val _])] wx (hs := by exact wG))
 refine fA ?_
 refine H6 ?_
 refine GV ?_
 refine cx 16 (fun ga sga => ?_) (fun ga sga => ?_)
 exact Ff
 refine vv ?_
 refine rA ?_ (x := aK ga)
 refine sc (fun hba => ?_) (fun hba => ?_)
 exact yg
 have hoe : bh e = true := by simp_all
 have hge : 0 ≤ dn e.Ws id := by first | omega | (simp_all; omega)
 have hok : jG e id = true := by unfold jG; rw [hoe, decide_eq_true hge]; rfl
 obtain ⟨i, hi, hf⟩ := BD hge
 have hef := gI hoe
 have hdw := BF hi
 have hdl := xP hi
 refine cO ?_
 refine sP [1, 2, 4, 5, 6, 7] [2, 4, 6] ?_
 refine qo (d := 6) (t := 108) (e := 10) (G := 6200) (A := [sl _ _, val _, val _, sl _ _]) (B := [sl _ _, sl _ _, val _]) (f := (aO ay aa aa aB aa)) (g := (fun z : Ws => [val (vI z.Wt.Id), val (vI z.Wt.Wx), sl .v (z.Wt.Wu.map bf), sl .v (z.Wt.Out.map ak), val (vI z.Time), sl .v (z.WB.map ak), val (vI z.Age), val (vI z.Sent), val (vI z.Cap), sl .v (z.Rows.map (bu aa))])) (fN := en) (xs := e.Ws) (by exact rfl) (by exact rfl) (fun _ _ => rfl) (fun _ => rfl) (fun _ => (an (an (aF (aF (an (aF (an (an (an (aF am.nil))))))))))) (fun _ => (by exact lq)) fun za hza => ?_
 have hzal : za.length = e.Ws.length := by rw [← ar (f := Prod.fst), hza]
 refine sO [(1, _), (2, _), (4, _), (5, _), (6, _), (7, _), (6200, _)] [(2, _), (4, _), (6, (32, [sl _ _, val _, val _, sl _ _, sl _ _, sl _ _, sl _ _, val _]))] ?_
 refine db cJ ?_
 refine dA 0 ?_ (x := b9 (qs := []) (by decide) bI fa (by decide) rfl rfl rfl rfl rfl (by exact nl rfl) (by exact tI) rfl)
 refine dA 0 ?_ (x := lF dN)
 refine dA 2 ?_ (x := lD [sl .v _] dC)
 refine dA 0 ?_ (x := sM)
 refine dA 14 ?_ (x := t3 (i := 0) (j := i) (ys := (za.take i)) (q := (0 : Int)) (by decide) bI (by exact rfl) (by exact tI) (by rfl) (by omega) (by omega) (by omega) (fun _ => rfl) (by simp))
 refine dA 31 ?_ (x := il (by decide) bI fa rfl rfl (by decide) (by intro cs hcs; obtain ⟨x, _, rfl⟩ := List.mem_map.1 hcs; exact rfl) (by intro cs hcs; obtain ⟨x, _, rfl⟩ := List.mem_map.1 hcs; exact (by exact lq)) (by simp only [ar, aU, List.length_cons, List.length_nil, fw, bv]; omega) (by simp only [ar, aU, List.length_cons, List.length_nil, fw, bv]; omega))
 refine dA 0 ?_ (x := lF dN)
 refine dA 64 ?_ (x := lD [sl .v _] dC)
 refine dA 0 ?_ (x := sM)
 refine dA 256 ?_ (x := j4)
 refine dA 960 ?_ (x := t3 (i := (i + 1)) (j := za.length) (ys := (za.drop (i + 1))) (r := ((za.length : Nat) : Int)) (by decide) bI (by exact tI) (by exact rfl) (by omega) (by rfl) (by omega) (by omega) (fun _ => rfl) (by rw [cb]))
 refine dA 2047 ?_ (x := il (by decide) bI fa rfl rfl (by decide) (by intro cs hcs; obtain ⟨x, _, rfl⟩ := List.mem_map.1 hcs; exact rfl) (by intro cs hcs; obtain ⟨x, _, rfl⟩ := List.mem_map.1 hcs; exact (by exact lq)) (by simp only [ar, aU, List.length_cons, List.length_nil, fw, bv]; omega) (by simp only [ar, aU, List.length_cons, List.length_nil, fw, bv]; omega))
 refine dA 4095 ?_ (x := lF dN)
 refine dA 8191 ?_ (x := bd (ag := false) (vs := [sl _ _]) dC (by exact tI) (by exact rfl) (by exact nl rfl))
 refine aP ?_
 refine sO [(1, _), (2, _), (4, _), (5, _), (6, _), (7, _), (6200, _)] [(2, _), (4, _), (6, (32, [sl _ _, val _, val _, sl _ _, sl _ _, sl _ _, sl _ _, val _]))] ?_
 refine bV (d := 6) (by exact rfl) (show _ = [sl bo (e.Store.Wr.map (aD aS aa)), val (vI e.Store.Now), val (vI e.Ww), sl aa (e.Order.map ak), sl bS ((eY za i).map en), sl bM (e.Done.map (aZ ay aa aB aa)), sl bP (e.WE.map (a7 aa aa aa)), val (vI e.Steps)] from by unfold eY; simp only [bN]; exact rfl) ?_
 refine sP [1, 2, 4, 5, 6, 7, 6200] [2, 4, 6] ?_
 refine xM (d := 6) (t := 108) (e := 10) (G := 6200) (A := [sl _ _, val _, val _, sl _ _]) (B := [sl _ _, sl _ _, val _]) (f := (aO ay aa aa aB aa)) (g := (fun z : Ws => [val (vI z.Wt.Id), val (vI z.Wt.Wx), sl .v (z.Wt.Wu.map bf), sl .v (z.Wt.Out.map ak), val (vI z.Time), sl .v (z.WB.map ak), val (vI z.Age), val (vI z.Sent), val (vI z.Cap), sl .v (z.Rows.map (bu aa))])) (fN := en) (ys := (eY za i)) [za[i]] (eY e.Ws i) (by exact rfl) (by exact rfl) (fun _ _ => rfl) (fun _ => rfl) (fun _ => rfl) (BE (by omega)) (LY hza) ?_
 refine HY ?_
 refine wO [(1, _), (2, _), (4, _), (5, _), (6, _), (7, _)] [(2, _), (4, _), (6, _)] ?_
 refine r5 (bx := 6) (L := (Lw w0.heap.size)) (qs := []) (as_ := []) (by decide) AZ rfl (by exact rfl) (by exact rfl) (by exact tI) (by exact tI) (by decide) (by exact tI) (by exact (BV (e := oz e i) (by omega))) (fun x hx => hx) (by exact lq) (by exact lq) ?_
 refine dg ?_
 refine aP ?_
 refine sO [(1, _), (2, _), (4, _), (5, _), (6, _), (7, _)] [(2, _), (4, _), (6, (32, [sl _ _, val _, val _, sl _ _, sl _ _, sl _ _, sl _ _, val _]))] ?_
 refine rg ?_
 refine rK ?_
 exact Fg
end Go.Proofs.YtmekkgdboplbjaaGreat
