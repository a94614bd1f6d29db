/- What functions of the program compute. No condition. -/
import Derived.Test.YtmekkgdboplbjaaGreatCB1
import Derived.Test.YtmekkgdboplbjaaGreatCX0
set_option linter.all false
namespace Go.Proofs.YtmekkgdboplbjaaGreat
open Go Go.RowKit M PV
set_option maxRecDepth 10000
attribute [local irreducible] PV.Lcl PV.LclR RV.Lcl
set_option maxHeartbeats 8000000
def abC {p1 p2 p5 p6 p7 p8 p9 p11 p12 p13 p14 p16 p17 p18 : Fl} {e : aD} {id : Int}  (hb : bi e ≤ 68719000000) : aB Tryz.prog 84 [(true, [sl .v (e.Store.act.map (aC p1 p2)), val (vI e.Store.Now), val (vI e.acy), sl .v (e.Order.map ak), sl .v (e.acu.map (aQ p5 p6 p7 p8 p9)), sl .v (e.Done.map (aX p11 p12 p13 p14)), sl .v (e.acG.map (aZ p16 p17 p18)), val (vI e.Steps)]), (false, [val (vI id)])] (aA [(true, [sl bo ((cQ e id).1.Store.act.map (aC aS aa)), val (vI (cQ e id).1.Store.Now), val (vI (cQ e id).1.acy), sl aa ((cQ e id).1.Order.map ak), sl bS ((cQ e id).1.acu.map (aQ aw aa aa az aa)), sl bJ ((cQ e id).1.Done.map (aX aw aa az aa)), sl bP ((cQ e id).1.acG.map (aZ aa aa aa)), val (vI (cQ e id).1.Steps)]), (false, [val (.bool (cQ e id).2)])]) := by
 refine kU (largs := fun L => [(true, [sl (.lo L) (e.Store.act.map (aC (.lo L) (.lo L))), val (vI e.Store.Now), val (vI e.acy), sl (.lo L) (e.Order.map ak), sl (.lo L) (e.acu.map (aQ (.lo L) (.lo L) (.lo L) (.lo L) (.lo L))), sl (.lo L) (e.Done.map (aX (.lo L) (.lo L) (.lo L) (.lo L))), sl (.lo L) (e.acG.map (aZ (.lo L) (.lo L) (.lo L))), val (vI e.Steps)]), (false, [val (vI id)])]) (rs := [(true, [sl bo ((cQ e id).1.Store.act.map (aC aS aa)), val (vI (cQ e id).1.Store.Now), val (vI (cQ e id).1.acy), sl aa ((cQ e id).1.Order.map ak), sl bS ((cQ e id).1.acu.map (aQ aw aa aa az aa)), sl bJ ((cQ e id).1.Done.map (aX aw aa az aa)), sl bP ((cQ e id).1.acG.map (aZ aa aa aa)), val (vI (cQ e id).1.Steps)]), (false, [val (.bool (cQ e id).2)])]) Tryz.func84 rfl (nl rfl) (fun L => by exact (aI (aI rfl (ab.cons (aM (fun _ => nl rfl) (fun _ => (ab.cons (aM (fun _ => nl rfl) (fun _ => (ab.cons ao (ab.cons (aM (fun _ => nl rfl) (fun _ => (ab.cons ao ab.nil))) (ab.cons ao (ab.cons ao ab.nil)))))) ab.nil))) (ab.cons ao (ab.cons ao (ab.cons (aM (fun _ => nl rfl) (fun _ => (ab.cons ao ab.nil))) (ab.cons (aM (fun _ => nl rfl) (fun _ => (ab.cons ao (ab.cons ao (ab.cons (aM (fun _ => nl rfl) (fun _ => (ab.cons ao (ab.cons ao (ab.cons ao ab.nil))))) (ab.cons (aM (fun _ => nl rfl) (fun _ => (ab.cons ao ab.nil))) (ab.cons ao (ab.cons (aM (fun _ => nl rfl) (fun _ => (ab.cons ao ab.nil))) (ab.cons ao (ab.cons ao (ab.cons ao (ab.cons (aM (fun _ => nl rfl) (fun _ => (ab.cons ao (ab.cons (aM (fun _ => nl rfl) (fun _ => (ab.cons ao ab.nil))) ab.nil)))) ab.nil)))))))))))) (ab.cons (aM (fun _ => nl rfl) (fun _ => (ab.cons ao (ab.cons ao (ab.cons (aM (fun _ => nl rfl) (fun _ => (ab.cons ao (ab.cons ao (ab.cons ao ab.nil))))) (ab.cons (aM (fun _ => nl rfl) (fun _ => (ab.cons ao ab.nil))) (ab.cons ao (ab.cons ao (ab.cons (aM (fun _ => nl rfl) (fun _ => (ab.cons ao (ab.cons (aM (fun _ => nl rfl) (fun _ => (ab.cons ao ab.nil))) ab.nil)))) ab.nil))))))))) (ab.cons (aM (fun _ => nl rfl) (fun _ => (ab.cons ao (ab.cons ao (ab.cons (aM (fun _ => nl rfl) (fun _ => (ab.cons ao ab.nil))) (ab.cons (aM (fun _ => nl rfl) (fun _ => (ab.cons ao ab.nil))) (ab.cons (aM (fun _ => nl rfl) (fun _ => (ab.cons ao ab.nil))) ab.nil))))))) (ab.cons ao ab.nil))))))))) (aI (aI rfl (ab.cons ao ab.nil)) tI))) (fun L => by exact lq) ?_
 intro w0 Fz0
 refine sn 0 0 fun hl0_0 => ?_
 refine sn 0 3 fun hl0_3 => ?_
 refine sn 0 4 fun hl0_4 => ?_
 refine sn 0 5 fun hl0_5 => ?_
 refine sn 0 6 fun hl0_6 => ?_
 have hbu := hb
 simp only [bi, da, dQ, dP] at hbu
 refine sa ?_
 refine Kf ?_
 refine AE ?_
 refine jU ?_
 refine wK ?_
 refine ob ?_
 refine rM ?_
 refine JP ?_
 refine Ll ?_
 refine AF ?_
 refine cx 16 (fun ga sga => ?_) (fun ga sga => ?_)
 exact If
 refine uw ?_
 refine rA ?_ (x := aK ga)
 refine sc (fun hba => ?_) (fun hba => ?_)
 exact Ah
 have hoe : bk e = true := by simp_all
 have hge : 0 ≤ dJ e.acu id := by first | omega | (simp_all; omega)
 have hok : kx e id = true := by unfold kx; rw [hoe, decide_eq_true hge]; rfl
 obtain ⟨i, hi, hf⟩ := DI hge
 have hef := ie hoe
 have hdw := DK hi
 have hdl := Dp hi
 refine dt ?_
 refine sP [1, 2, 4, 5, 6, 7] [2, 4, 6] ?_
 refine ju (d := 6) (t := 32) (D := 900) (G := 2900) (E := 108) (e := 10) (L := (Lw w0.heap.size)) (A := [sl _ _, val _, val _, sl _ _]) (B := [sl _ _, sl _ _, val _]) (es := (e.acu).map (aQ aw aa aa az aa)) (by exact rfl) (iC hi) (by exact rfl) (by exact rfl) rfl (by exact rfl) (fun x hx => hx) (by exact lq) (by exact lq) (by exact lq) (by exact lq) (ai.map fun x => (ai.cons lcl_val (ai.cons lcl_val (ai.cons (lcl_own (ai.map fun x => (ai.cons lcl_val (ai.cons lcl_val (ai.cons lcl_val ai.nil))))) (ai.cons (lcl_own (ai.map fun x => (ai.cons lcl_val ai.nil))) (ai.cons lcl_val (ai.cons (lcl_own (ai.map fun x => (ai.cons lcl_val ai.nil))) (ai.cons lcl_val (ai.cons lcl_val (ai.cons lcl_val (ai.cons (lcl_own (ai.map fun x => (ai.cons lcl_val (ai.cons (lcl_own (ai.map fun x => (ai.cons lcl_val ai.nil))) ai.nil)))) ai.nil))))))))))) fun uu900 cp900 jk900 hlD900 hcp900 hjk900 => ?_
 rw [aq] at hlD900 hcp900 hjk900
 refine bV (d := 900) (by exact rfl) (show _ = bE (aQ aw aa aa az aa) (e.acu) jk900 from rfl) ?_
 refine sO [(1, _), (2, _), (4, _), (5, _), (6, _), (7, _), (2900, _)] [(2, _), (4, _), (6, (32, [sl _ _, val _, val _, sl _ _, val _, sl _ _, sl _ _, val _])), (900, (108, bE (aQ aw aa aa az aa) _ _))] ?_
 refine RQ (d := 900) (G := 4900) (e := 10) (f := (aQ aw aa aa az aa)) (g := (fun z : acu => [val (vI z.acv.Id), val (vI z.acv.acz), sl .v (z.acv.acw.map bj), sl .v (z.acv.Out.map ak), val (vI z.Time), sl .v (z.acD.map ak), val (vI z.Age), val (vI z.Sent), val (vI z.Cap), sl .v (z.Rows.map (bC aa))])) (fN := eS) (by exact rfl) (by exact rfl) (fun _ _ => rfl) (fun _ => rfl) (fun _ => (ap (ap (aH (aH (ap (aH (ap (ap (ap (aH am.nil))))))))))) (fun _ => (by exact lq)) fun zs900 hz900 => ?_
 refine sO [(1, _), (2, _), (4, _), (5, _), (6, _), (7, _), (2900, _), (4900, _)] [(2, _), (4, _), (6, _), (900, (108, bE eS _ _))] ?_
 refine dw dl ?_
 refine dA 0 ?_ (x := lF el)
 refine dA 1 ?_ (x := lD [val _] ea)
 refine dA 0 ?_ (x := sM)
 refine dA 7 ?_ (x := PA (G := 2900) (i := 0) (j := i) (q := (0 : Int)) (by decide) bL (by exact rfl) (by exact tI) (by rfl) (by omega) (by omega) (by rw [aq]; omega))
 refine dA 0 ?_ (x := lF el)
 refine dA 16 ?_ (x := lD [val _] ea)
 refine dA 0 ?_ (x := sM)
 refine dA 64 ?_ (x := kV)
 refine dA 240 ?_ (x := PA (G := 2900) (i := (i + 1)) (j := (e.acu.map (aQ aw aa aa az aa)).length) (r := (((e.acu.map (aQ aw aa aa az aa)).length : Nat) : Int)) (by decide) bL (by exact tI) (by exact rfl) (by omega) (by rfl) (by rw [aq]; omega) (by omega))
 refine dA 511 ?_ (x := aar (G := 2900) (D := 900) (i := i) (g := (fun z : acu => [val (vI z.acv.Id), val (vI z.acv.acz), sl .v (z.acv.acw.map bj), sl .v (z.acv.Out.map ak), val (vI z.Time), sl .v (z.acD.map ak), val (vI z.Age), val (vI z.Sent), val (vI z.Cap), sl .v (z.Rows.map (bC aa))])) (fN := eS) (by decide) bL (by decide) (fun _ _ => rfl) (fun _ => rfl) (fun _ => (by exact lq)) (by rw [aq, ← hz900, aq]) (by rw [aq]; exact hi) (by rw [aq]; exact hjk900) (by exact rfl))
 refine dA 1023 ?_ (x := lF el)
 refine dA 2047 ?_ (x := bg (ag := false) (vs := [val _]) ea (by exact tI) (by exact rfl) (by exact nl rfl))
 refine aal (d := 900) (G := 4900) (e := 10) (f := (aQ aw aa aa az aa)) (g := (fun z : acu => [val (vI z.acv.Id), val (vI z.acv.acz), sl .v (z.acv.acw.map bj), sl .v (z.acv.Out.map ak), val (vI z.Time), sl .v (z.acD.map ak), val (vI z.Age), val (vI z.Sent), val (vI z.Cap), sl .v (z.Rows.map (bC aa))])) (fN := eS) [zs900[i]'(by rw [← hz900, aq] at hi; exact hi)] (fL e.acu i) (by exact rfl) (by exact rfl) (fun _ _ => rfl) (fun _ => rfl) (fun _ => rfl) (by exact DJ (by rw [← hz900, aq] at hi; exact hi)) (by exact Qe hz900) ?_
 refine nS (d := 6) (D := 900) (G := 2900) (e := 10) (A := [sl _ _, val _, val _, sl _ _]) (B := [sl _ _, sl _ _, val _]) (es := ((fL e.acu i)).map (aQ aw aa aa az aa)) (by exact rfl) (by exact rfl) (by exact rfl) rfl (by rw [aq, hdl, aq]) (by intro c hc; obtain ⟨y, _, rfl⟩ := List.mem_map.1 hc; exact rfl) (by exact aaq (by rw [aq, ← hz900, aq]) (by rw [aq]; omega) (by rw [aq]; exact hjk900)) ?_
 refine aP ?_
 refine Ld ?_
 refine wA ?_ (x := cz (ms := [sl _ _, val _, val _, sl _ _, sl _ _, sl _ _, sl _ _, val _]) (qs := [any, val _, val _, any, any, any, any, val _]) (by decide) bU (fun h => nomatch h) (by exact nl rfl) (by exact rfl) (by exact (am.cons PV.to_any (ap (ap (am.cons PV.to_any (am.cons PV.to_any (am.cons PV.to_any (am.cons PV.to_any (ap am.nil))))))))) (by exact lq))
 refine wO [(1, _), (2, _), (4, _), (5, _), (6, _), (7, _), (32, _)] [(2, _), (4, _), (6, (32, [any, val _, val _, any, any, any, any, val _]))] ?_
 refine zC (L := (Lw w0.heap.size)) (qs := [(true, [sl _ _, val _, val _, sl _ _, sl _ _, sl _ _, sl _ _, val _])]) (as_ := [(true, [sl _ _, val _, val _, sl _ _, sl _ _, sl _ _, sl _ _, val _])]) (by decide) CV (by exact ⟨rfl, ⟨⟩⟩) (by exact (aI (by exact tI) tI)) (by decide) (by exact lq) (by exact (Eb (e := qa e i) (by omega))) (fun x hx => hx) (by exact lq) (by exact lq) ?_
 refine wA ?_ (x := bg (ag := true) (vs := [sl _ _, val _, val _, sl _ _, sl _ _, sl _ _, sl _ _, val _]) bU (by exact tI) (by exact rfl) (by exact nl rfl))
 refine wA ?_ (x := kA)
 refine dO ?_
 exact Ig
def abD {p1 p2 p5 p6 p7 p8 p9 p11 p12 p13 p14 p16 p17 p18 : Fl} {e : aD} {id : Int}  (hb : bi e ≤ 68719000000) : aB Tryz.prog 88 [(true, [sl .v (e.Store.act.map (aC p1 p2)), val (vI e.Store.Now), val (vI e.acy), sl .v (e.Order.map ak), sl .v (e.acu.map (aQ p5 p6 p7 p8 p9)), sl .v (e.Done.map (aX p11 p12 p13 p14)), sl .v (e.acG.map (aZ p16 p17 p18)), val (vI e.Steps)]), (false, [val (vI id)])] (aA [(true, [sl bo ((cQ e id).1.Store.act.map (aC aS aa)), val (vI (cQ e id).1.Store.Now), val (vI (cQ e id).1.acy), sl aa ((cQ e id).1.Order.map ak), sl bS ((cQ e id).1.acu.map (aQ aw aa aa az aa)), sl bJ ((cQ e id).1.Done.map (aX aw aa az aa)), sl bP ((cQ e id).1.acG.map (aZ aa aa aa)), val (vI (cQ e id).1.Steps)]), (false, [val (.bool (cQ e id).2)])]) := by
 refine kU (largs := fun L => [(true, [sl (.lo L) (e.Store.act.map (aC (.lo L) (.lo L))), val (vI e.Store.Now), val (vI e.acy), sl (.lo L) (e.Order.map ak), sl (.lo L) (e.acu.map (aQ (.lo L) (.lo L) (.lo L) (.lo L) (.lo L))), sl (.lo L) (e.Done.map (aX (.lo L) (.lo L) (.lo L) (.lo L))), sl (.lo L) (e.acG.map (aZ (.lo L) (.lo L) (.lo L))), val (vI e.Steps)]), (false, [val (vI id)])]) (rs := [(true, [sl bo ((cQ e id).1.Store.act.map (aC aS aa)), val (vI (cQ e id).1.Store.Now), val (vI (cQ e id).1.acy), sl aa ((cQ e id).1.Order.map ak), sl bS ((cQ e id).1.acu.map (aQ aw aa aa az aa)), sl bJ ((cQ e id).1.Done.map (aX aw aa az aa)), sl bP ((cQ e id).1.acG.map (aZ aa aa aa)), val (vI (cQ e id).1.Steps)]), (false, [val (.bool (cQ e id).2)])]) Tryz.func88 rfl (nl rfl) (fun L => by exact (aI (aI rfl (ab.cons (aM (fun _ => nl rfl) (fun _ => (ab.cons (aM (fun _ => nl rfl) (fun _ => (ab.cons ao (ab.cons (aM (fun _ => nl rfl) (fun _ => (ab.cons ao ab.nil))) (ab.cons ao (ab.cons ao ab.nil)))))) ab.nil))) (ab.cons ao (ab.cons ao (ab.cons (aM (fun _ => nl rfl) (fun _ => (ab.cons ao ab.nil))) (ab.cons (aM (fun _ => nl rfl) (fun _ => (ab.cons ao (ab.cons ao (ab.cons (aM (fun _ => nl rfl) (fun _ => (ab.cons ao (ab.cons ao (ab.cons ao ab.nil))))) (ab.cons (aM (fun _ => nl rfl) (fun _ => (ab.cons ao ab.nil))) (ab.cons ao (ab.cons (aM (fun _ => nl rfl) (fun _ => (ab.cons ao ab.nil))) (ab.cons ao (ab.cons ao (ab.cons ao (ab.cons (aM (fun _ => nl rfl) (fun _ => (ab.cons ao (ab.cons (aM (fun _ => nl rfl) (fun _ => (ab.cons ao ab.nil))) ab.nil)))) ab.nil)))))))))))) (ab.cons (aM (fun _ => nl rfl) (fun _ => (ab.cons ao (ab.cons ao (ab.cons (aM (fun _ => nl rfl) (fun _ => (ab.cons ao (ab.cons ao (ab.cons ao ab.nil))))) (ab.cons (aM (fun _ => nl rfl) (fun _ => (ab.cons ao ab.nil))) (ab.cons ao (ab.cons ao (ab.cons (aM (fun _ => nl rfl) (fun _ => (ab.cons ao (ab.cons (aM (fun _ => nl rfl) (fun _ => (ab.cons ao ab.nil))) ab.nil)))) ab.nil))))))))) (ab.cons (aM (fun _ => nl rfl) (fun _ => (ab.cons ao (ab.cons ao (ab.cons (aM (fun _ => nl rfl) (fun _ => (ab.cons ao ab.nil))) (ab.cons (aM (fun _ => nl rfl) (fun _ => (ab.cons ao ab.nil))) (ab.cons (aM (fun _ => nl rfl) (fun _ => (ab.cons ao ab.nil))) ab.nil))))))) (ab.cons ao ab.nil))))))))) (aI (aI rfl (ab.cons ao ab.nil)) tI))) (fun L => by exact lq) ?_
 intro w0 Fz0
 refine sn 0 0 fun hl0_0 => ?_
 refine sn 0 3 fun hl0_3 => ?_
 refine sn 0 4 fun hl0_4 => ?_
 refine sn 0 5 fun hl0_5 => ?_
 refine sn 0 6 fun hl0_6 => ?_
 have hbu := hb
 simp only [bi, da, dQ, dP] at hbu
 refine sa ?_
 refine Kf ?_
 refine AG ?_
 refine jU ?_
 refine wK ?_
 refine ob ?_
 refine rM ?_
 refine rA ?_ (x := cL [(true, [sl (.lo _) _, val _, val _, sl (.lo _) _, sl (.lo _) _, sl (.lo _) _, sl (.lo _) _, val _]), (false, [val _])] [(true, [sl .v _, val _, val _, sl .v _, sl .v _, sl .v _, sl .v _, val _]), (false, [val _])] ym (hs := by exact yw))
 refine eZ ?_
 refine Ll ?_
 refine JU ?_
 refine cx 16 (fun ga sga => ?_) (fun ga sga => ?_)
 exact If
 refine uw ?_
 refine rA ?_ (x := aK ga)
 refine sc (fun hba => ?_) (fun hba => ?_)
 exact Ah
 have hoe : bk e = true := by simp_all
 have hge : 0 ≤ dJ e.acu id := by first | omega | (simp_all; omega)
 have hok : kx e id = true := by unfold kx; rw [hoe, decide_eq_true hge]; rfl
 obtain ⟨i, hi, hf⟩ := DI hge
 have hef := ie hoe
 have hdw := DK hi
 have hdl := Dp hi
 refine dt ?_
 refine sP [1, 2, 4, 5, 6, 7] [2, 4, 6] ?_
 refine rN (d := 6) (t := 108) (e := 10) (G := 6200) (A := [sl _ _, val _, val _, sl _ _]) (B := [sl _ _, sl _ _, val _]) (f := (aQ aw aa aa az aa)) (g := (fun z : acu => [val (vI z.acv.Id), val (vI z.acv.acz), sl .v (z.acv.acw.map bj), sl .v (z.acv.Out.map ak), val (vI z.Time), sl .v (z.acD.map ak), val (vI z.Age), val (vI z.Sent), val (vI z.Cap), sl .v (z.Rows.map (bC aa))])) (fN := eS) (xs := e.acu) (by exact rfl) (by exact rfl) (fun _ _ => rfl) (fun _ => rfl) (fun _ => (ap (ap (aH (aH (ap (aH (ap (ap (ap (aH am.nil))))))))))) (fun _ => (by exact lq)) fun za hza => ?_
 have hzal : za.length = e.acu.length := by rw [← aq (f := Prod.fst), hza]
 refine sO [(1, _), (2, _), (4, _), (5, _), (6, _), (7, _), (6200, _)] [(2, _), (4, _), (6, (32, [sl _ _, val _, val _, sl _ _, sl _ _, sl _ _, sl _ _, val _]))] ?_
 refine dw dl ?_
 refine dA 0 ?_ (x := cj (qs := []) (by decide) bL fJ (by decide) rfl rfl rfl rfl rfl (by exact nl rfl) (by exact tI) rfl)
 refine dA 0 ?_ (x := lF el)
 refine dA 2 ?_ (x := lD [sl .v _] ea)
 refine dA 0 ?_ (x := sM)
 refine dA 14 ?_ (x := tB (i := 0) (j := i) (ys := (za.take i)) (q := (0 : Int)) (by decide) bL (by exact rfl) (by exact tI) (by rfl) (by omega) (by omega) (by omega) (fun _ => rfl) (by simp))
 refine dA 31 ?_ (x := iN (by decide) bL fJ rfl rfl (by decide) (by intro cs hcs; obtain ⟨x, _, rfl⟩ := List.mem_map.1 hcs; exact rfl) (by intro cs hcs; obtain ⟨x, _, rfl⟩ := List.mem_map.1 hcs; exact (by exact lq)) (by simp only [aq, aV, List.length_cons, List.length_nil, gm, br]; omega) (by simp only [aq, aV, List.length_cons, List.length_nil, gm, br]; omega))
 refine dA 0 ?_ (x := lF el)
 refine dA 64 ?_ (x := lD [sl .v _] ea)
 refine dA 0 ?_ (x := sM)
 refine dA 256 ?_ (x := kV)
 refine dA 960 ?_ (x := tB (i := (i + 1)) (j := za.length) (ys := (za.drop (i + 1))) (r := ((za.length : Nat) : Int)) (by decide) bL (by exact tI) (by exact rfl) (by omega) (by rfl) (by omega) (by omega) (fun _ => rfl) (by rw [cn]))
 refine dA 2047 ?_ (x := iN (by decide) bL fJ rfl rfl (by decide) (by intro cs hcs; obtain ⟨x, _, rfl⟩ := List.mem_map.1 hcs; exact rfl) (by intro cs hcs; obtain ⟨x, _, rfl⟩ := List.mem_map.1 hcs; exact (by exact lq)) (by simp only [aq, aV, List.length_cons, List.length_nil, gm, br]; omega) (by simp only [aq, aV, List.length_cons, List.length_nil, gm, br]; omega))
 refine dA 4095 ?_ (x := lF el)
 refine dA 8191 ?_ (x := bg (ag := false) (vs := [sl _ _]) ea (by exact tI) (by exact rfl) (by exact nl rfl))
 refine aP ?_
 refine sO [(1, _), (2, _), (4, _), (5, _), (6, _), (7, _), (6200, _)] [(2, _), (4, _), (6, (32, [sl _ _, val _, val _, sl _ _, sl _ _, sl _ _, sl _ _, val _]))] ?_
 refine bV (d := 6) (by exact rfl) (show _ = [sl bo (e.Store.act.map (aC aS aa)), val (vI e.Store.Now), val (vI e.acy), sl aa (e.Order.map ak), sl bS ((fL za i).map eS), sl bJ (e.Done.map (aX aw aa az aa)), sl bP (e.acG.map (aZ aa aa aa)), val (vI e.Steps)] from by unfold fL; simp only [bT]; exact rfl) ?_
 refine sP [1, 2, 4, 5, 6, 7, 6200] [2, 4, 6] ?_
 refine Dm (d := 6) (t := 108) (e := 10) (G := 6200) (A := [sl _ _, val _, val _, sl _ _]) (B := [sl _ _, sl _ _, val _]) (f := (aQ aw aa aa az aa)) (g := (fun z : acu => [val (vI z.acv.Id), val (vI z.acv.acz), sl .v (z.acv.acw.map bj), sl .v (z.acv.Out.map ak), val (vI z.Time), sl .v (z.acD.map ak), val (vI z.Age), val (vI z.Sent), val (vI z.Cap), sl .v (z.Rows.map (bC aa))])) (fN := eS) (ys := (fL za i)) [za[i]] (fL e.acu i) (by exact rfl) (by exact rfl) (fun _ _ => rfl) (fun _ => rfl) (fun _ => rfl) (DJ (by omega)) (Qe hza) ?_
 refine Ld ?_
 refine wO [(1, _), (2, _), (4, _), (5, _), (6, _), (7, _)] [(2, _), (4, _), (6, _)] ?_
 refine tH (bx := 6) (L := (Lw w0.heap.size)) (qs := []) (as_ := []) (by decide) CW rfl (by exact rfl) (by exact rfl) (by exact tI) (by exact tI) (by decide) (by exact tI) (by exact (Ec (e := qa e i) (by omega))) (fun x hx => hx) (by exact lq) (by exact lq) ?_
 refine dO ?_
 refine aP ?_
 refine sO [(1, _), (2, _), (4, _), (5, _), (6, _), (7, _)] [(2, _), (4, _), (6, (32, [sl _ _, val _, val _, sl _ _, sl _ _, sl _ _, sl _ _, val _]))] ?_
 refine pH ?_
 refine rK ?_
 exact Ig
end Go.Proofs.YtmekkgdboplbjaaGreat
