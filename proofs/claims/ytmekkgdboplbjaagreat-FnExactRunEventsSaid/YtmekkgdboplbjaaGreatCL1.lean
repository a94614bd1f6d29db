/- What functions of the program compute. No condition. -/
import Derived.Test.YtmekkgdboplbjaaGreatCH0
import Derived.Test.YtmekkgdboplbjaaGreatCI0
import Derived.Test.YtmekkgdboplbjaaGreatCJ0
import Derived.Test.YtmekkgdboplbjaaGreatCK0
import Derived.Test.YtmekkgdboplbjaaGreatCK1
set_option linter.all false
namespace Go.Proofs.YtmekkgdboplbjaaGreat
open Go Go.RowKit M PV
set_option maxRecDepth 10000
attribute [local irreducible] PV.Lcl PV.LclR RV.Lcl
set_option maxHeartbeats 8000000
def ab8 {p1 p2 p5 p6 p7 p8 p9 p11 p12 p13 p14 p16 p17 p18 p20 p21 p22 : Fl} {aE : aD} {aL : List cC}  : aB Tryz.prog 6 [(true, [sl .v (aE.Store.act.map (aC p1 p2)), val (vI aE.Store.Now), val (vI aE.acy), sl .v (aE.Order.map ak), sl .v (aE.acu.map (aQ p5 p6 p7 p8 p9)), sl .v (aE.Done.map (aX p11 p12 p13 p14)), sl .v (aE.acG.map (aZ p16 p17 p18)), val (vI aE.Steps)]), (false, [sl .v (aL.map (hP p20 p21 p22))])] (aA [(false, [val (.bool true)])]) := by
 refine kU (largs := fun L => [(true, [sl (.lo L) (aE.Store.act.map (aC (.lo L) (.lo L))), val (vI aE.Store.Now), val (vI aE.acy), sl (.lo L) (aE.Order.map ak), sl (.lo L) (aE.acu.map (aQ (.lo L) (.lo L) (.lo L) (.lo L) (.lo L))), sl (.lo L) (aE.Done.map (aX (.lo L) (.lo L) (.lo L) (.lo L))), sl (.lo L) (aE.acG.map (aZ (.lo L) (.lo L) (.lo L))), val (vI aE.Steps)]), (false, [sl (.lo L) (aL.map (hP (.lo L) (.lo L) (.lo L)))])]) (rs := [(false, [val (.bool true)])]) Tryz.func6 rfl (nl rfl) (fun L => by exact (aI (aI rfl (ab.cons (aM (fun _ => nl rfl) (fun _ => (ab.cons (aM (fun _ => nl rfl) (fun _ => (ab.cons ao (ab.cons (aM (fun _ => nl rfl) (fun _ => (ab.cons ao ab.nil))) (ab.cons ao (ab.cons ao ab.nil)))))) ab.nil))) (ab.cons ao (ab.cons ao (ab.cons (aM (fun _ => nl rfl) (fun _ => (ab.cons ao ab.nil))) (ab.cons (aM (fun _ => nl rfl) (fun _ => (ab.cons ao (ab.cons ao (ab.cons (aM (fun _ => nl rfl) (fun _ => (ab.cons ao (ab.cons ao (ab.cons ao ab.nil))))) (ab.cons (aM (fun _ => nl rfl) (fun _ => (ab.cons ao ab.nil))) (ab.cons ao (ab.cons (aM (fun _ => nl rfl) (fun _ => (ab.cons ao ab.nil))) (ab.cons ao (ab.cons ao (ab.cons ao (ab.cons (aM (fun _ => nl rfl) (fun _ => (ab.cons ao (ab.cons (aM (fun _ => nl rfl) (fun _ => (ab.cons ao ab.nil))) ab.nil)))) ab.nil)))))))))))) (ab.cons (aM (fun _ => nl rfl) (fun _ => (ab.cons ao (ab.cons ao (ab.cons (aM (fun _ => nl rfl) (fun _ => (ab.cons ao (ab.cons ao (ab.cons ao ab.nil))))) (ab.cons (aM (fun _ => nl rfl) (fun _ => (ab.cons ao ab.nil))) (ab.cons ao (ab.cons ao (ab.cons (aM (fun _ => nl rfl) (fun _ => (ab.cons ao (ab.cons (aM (fun _ => nl rfl) (fun _ => (ab.cons ao ab.nil))) ab.nil)))) ab.nil))))))))) (ab.cons (aM (fun _ => nl rfl) (fun _ => (ab.cons ao (ab.cons ao (ab.cons (aM (fun _ => nl rfl) (fun _ => (ab.cons ao ab.nil))) (ab.cons (aM (fun _ => nl rfl) (fun _ => (ab.cons ao ab.nil))) (ab.cons (aM (fun _ => nl rfl) (fun _ => (ab.cons ao ab.nil))) ab.nil))))))) (ab.cons ao ab.nil))))))))) (aI (aI rfl (ab.cons (aM (fun _ => nl rfl) (fun _ => (ab.cons ao (ab.cons ao (ab.cons ao (ab.cons (aM (fun _ => nl rfl) (fun _ => (ab.cons ao (ab.cons ao (ab.cons ao ab.nil))))) (ab.cons (aM (fun _ => nl rfl) (fun _ => (ab.cons ao ab.nil))) (ab.cons ao (ab.cons ao (ab.cons ao (ab.cons ao (ab.cons (aM (fun _ => nl rfl) (fun _ => (ab.cons ao ab.nil))) (ab.cons ao (ab.cons ao (ab.cons ao ab.nil))))))))))))))) ab.nil)) tI))) (fun L => by exact lq) ?_
 intro w0 Fz0
 refine sn 0 0 fun hl0_0 => ?_
 refine sn 0 3 fun hl0_3 => ?_
 refine sn 0 4 fun hl0_4 => ?_
 refine sn 0 5 fun hl0_5 => ?_
 refine sn 0 6 fun hl0_6 => ?_
 refine sj 1 fun hl1 => ?_
 refine sa ?_
 refine fh ?_
 refine sO [(1, _), (2, _), (4, _)] [(2, (80, [sl (.lo _) _, val _, val _, sl (.lo _) _, sl (.lo _) _, sl (.lo _) _, sl (.lo _) _, val _]))] ?_
 refine bf ?_
 refine rK ?_
 refine sS [1, 2, 4, 5] [2] ?_
 refine rA ?_ (x := lD [sl (.lo _) _, val _, val _, sl (.lo _) _, sl (.lo _) _, sl (.lo _) _, sl (.lo _) _, val _] yn)
 refine rM ?_
 refine rA ?_ (x := cL [(true, [sl (.lo _) _, val _, val _, sl (.lo _) _, sl (.lo _) _, sl (.lo _) _, sl (.lo _) _, val _]), (false, [val _])] [(true, [sl .v _, val _, val _, sl .v _, sl .v _, sl .v _, sl .v _, val _]), (false, [val _])] Xq (hs := by exact Ym (by omega) (by omega)))
 refine eZ ?_
 refine sS [1, 2, 4, 5] [2] ?_
 refine iU ?_
 refine sc (fun hba => ?_) (fun hba => ?_)
 refine sS [1, 2, 4, 5] [2] ?_
 refine rK ?_
 exact tL
 have hp0 := ez (w := bi aE) (l := 1048576) hba
 have he0 := ck hp0
 refine bm ?_
 refine sS [1, 2, 4, 5] [2] ?_
 refine rA ?_ (x := vM false [sl (.lo _) _])
 refine rM ?_
 refine rA ?_ (x := cL [(false, [sl (.lo _) _]), (false, [val _])] [(false, [sl .v _]), (false, [val _])] Xs (hs := by exact Yi (by omega) (by omega)))
 refine eZ ?_
 refine sS [1, 2, 4, 5] [2] ?_
 refine iU ?_
 refine sc (fun hbb => ?_) (fun hbb => ?_)
 refine sS [1, 2, 4, 5] [2] ?_
 refine rK ?_
 exact tL
 have hp1 := ez (w := kH aL) (l := (bN 1048576 (bi aE))) hbb
 have he1 := ck hp1
 have hw0 := abu aE aL
 refine bm ?_
 refine sS [1, 2, 4, 5] [2] ?_
 refine Aw ?_
 refine wM ?_
 refine rA ?_ (x := cL [(true, [sl _ _, val _, val _, sl _ _, sl _ _, sl _ _, sl _ _, val _]), (false, [sl _ _])] [(true, [sl .v _, val _, val _, sl .v _, sl .v _, sl .v _, sl .v _, val _]), (false, [sl .v _])] Xt (hs := by exact (ab7 (by omega) (by omega))))
 refine rA ?_ (x := tM)
 refine qu ?_
 refine jU ?_
 refine eZ ?_
 refine sO [(1, _), (2, _), (4, _), (5, _), (6, _), (7, _)] [(2, _), (6, (32, [sl _ _, val _, val _, sl _ _, sl _ _, sl _ _, sl _ _, val _]))] ?_
 refine bf ?_
 refine Aw ?_
 refine jU ?_
 refine aP ?_
 refine sO [(1, _), (2, _), (4, _), (5, _), (6, _), (7, _), (8, _)] [(2, _), (6, _), (8, (32, [sl _ _, val _, val _, sl _ _, sl _ _, sl _ _, sl _ _, val _]))] ?_
 refine bf ?_
 refine wM ?_
 refine rA ?_ (x := tA)
 refine sS [1, 2, 4, 5, 6, 7, 8, 9] [2, 6, 8] ?_
 refine rA ?_ (x := lD [sl .v _, val _, val _, sl .v _, sl .v _, sl .v _, sl .v _, val _] bU)
 refine rA ?_ (x := vM false [sl .v _])
 refine JN ?_
 refine qu ?_
 refine jU ?_
 refine eZ ?_
 refine aP ?_
 refine sO [(1, _), (2, _), (4, _), (5, _), (6, _), (7, _), (8, _), (9, _), (10, _), (11, _)] [(2, _), (6, _), (8, _), (10, (32, [sl _ _, val _, val _, sl _ _, sl _ _, sl _ _, sl _ _, val _]))] ?_
 refine Br ?_
 refine JA ?_
 refine gp ?_
 refine cx 49 (fun ga sga => ?_) (fun ga sga => ?_)
 ·first | (simp [iW] at ga; done) | (simp only [decide_eq_true_eq] at ga; omega)
 refine rB ga ?_ (x := sM)
 refine rB ga ?_ (x := sM)
 refine rB ga ?_ (x := eX)
 refine rA ?_ (x := aK ga)
 refine sc (fun hbc => ?_) (fun hbc => ?_)
 ·first | exact absurd rfl hbc | (simp [iW] at hbc; done) | omega
 refine dt ?_
 refine aP ?_
 refine sP [1, 2, 4, 5, 6, 7, 8, 9, 10, 11] [2, 6, 8, 10] ?_
 refine Bp ?_
 refine dA 0 ?_ (x := lD [sl (.lo _) _, val _, val _, sl (.lo _) _, sl (.lo _) _, sl (.lo _) _, sl (.lo _) _, val _] yn)
 refine dA 2 ?_ (x := cL [(true, [sl (.lo _) _, val _, val _, sl (.lo _) _, sl (.lo _) _, sl (.lo _) _, sl (.lo _) _, val _])] [(true, [sl .v _, val _, val _, sl .v _, sl .v _, sl .v _, sl .v _, val _])] OH (hs := by exact OU (by omega)))
 refine dA 7 ?_ (x := cL [(true, [sl _ _, val _, val _, sl _ _, sl _ _, sl _ _, sl _ _, val _]), (true, [sl _ _, val _, val _, sl _ _, sl _ _, sl _ _, sl _ _, val _])] [(true, [sl .v _, val _, val _, sl .v _, sl .v _, sl .v _, sl .v _, val _]), (true, [sl .v _, val _, val _, sl .v _, sl .v _, sl .v _, sl .v _, val _])] CZ (hs := by exact Dd))
 refine dA 15 ?_ (x := nT)
 refine sc (fun hbd => ?_) (fun hbd => ?_)
 ·first | exact absurd rfl hbd | (simp [iW] at hbd; done) | omega
 refine dt ?_
 refine sS [1, 2, 4, 5, 6, 7, 8, 9, 10, 11] [2, 6, 8, 10] ?_
 refine rA ?_ (x := vM false [sl .v _])
 refine wM ?_
 refine rA ?_ (x := cL [(false, [sl _ _]), (false, [sl _ _])] [(false, [sl .v _]), (false, [sl .v _])] Xw (hs := by exact YT))
 refine rA ?_ (x := nT)
 refine sc (fun hbe => ?_) (fun hbe => ?_)
 ·first | exact absurd rfl hbe | (simp [iW] at hbe; done) | omega
 refine bm ?_
 refine sS [1, 2, 4, 5, 6, 7, 8, 9, 10, 11] [2, 6, 8, 10] ?_
 refine fh ?_
 refine sP [1, 2, 4, 5, 6, 7, 8, 9, 10, 11, 12] [2, 6, 8, 10] ?_
 refine nI (d := 8) (A := []) (ms := [sl _ _, val _, val _, sl _ _, sl _ _, sl _ _, sl _ _, val _]) (B := []) (by exact rfl) fun us hus => ?_
 obtain ⟨u7_0, u7_1, u7_2, u7_3, u7_4, u7_5, u7_6, u7_7, rfl⟩ := xQ hus
 have hq8 := ML aE 1
 have hq9 := MN aE 1
 refine sO [(1, _), (2, _), (4, _), (5, _), (6, _), (7, _), (8, _), (9, _), (10, _), (11, _), (12, _)] [(2, _), (6, _), (8, (32, [nv _ (sl _ _), nv _ (val _), nv _ (val _), nv _ (sl _ _), nv _ (sl _ _), nv _ (sl _ _), nv _ (sl _ _), nv _ (val _)])), (10, _)] ?_
 refine jq ?_
 refine aO (by exact ⟨rfl, ⟨⟩⟩) (by exact ⟨rfl, ⟨⟩⟩) (ay.of rfl (eW (qs := [val _, val _, val _, val _, val _, val _, val _, val _]) (by decide) bU (fun h => nomatch h) (by exact nl rfl) (by exact (am.cons cN (am.cons cN (am.cons cN (am.cons cN (am.cons cN (am.cons cN (am.cons cN (am.cons cN am.nil))))))))) (by exact lq))) aG ?_
 refine aO (by exact ⟨rfl, ⟨⟩⟩) (by exact tI) (ay.of rfl (be (.inl rfl) (by decide) (by exact Cp.sc))) aG ?_
 refine ff (l := [(1, RV.sv false [sl (.lo _) _]), (2, RV.ptr 2 0), (4, RV.sv false [val _]), (5, RV.sv false [val _]), (6, RV.ptr 6 0), (7, RV.sv false [val _]), (8, RV.ptr 8 0), (9, RV.sv false [sl _ _]), (10, RV.ptr 10 0), (11, RV.sv false [val _]), (12, RV.sv false [val _]), (64, RV.sv true [val _, val _, val _, val _, val _, val _, val _, val _]), (65, RV.sv false [val _])]) (b := [(2, (80, [sl (.lo _) _, val _, val _, sl (.lo _) _, sl (.lo _) _, sl (.lo _) _, sl (.lo _) _, val _])), (6, (32, [sl _ _, val _, val _, sl _ _, sl _ _, sl _ _, sl _ _, val _])), (8, (32, [nv _ (sl _ _), nv _ (val _), nv _ (val _), nv _ (sl _ _), nv _ (sl _ _), nv _ (sl _ _), nv _ (sl _ _), nv _ (val _)])), (10, (32, [sl _ _, val _, val _, sl _ _, sl _ _, sl _ _, sl _ _, val _]))]) (by exact ⟨rfl, rfl, rfl, rfl, rfl, rfl, rfl, rfl, rfl, rfl, rfl, rfl, rfl, ⟨⟩⟩) (by exact ⟨rfl, rfl, rfl, rfl, ⟨⟩⟩) ?_
 refine nL (bx := 8) (L := (Lw w0.heap.size)) (A := []) (ms := [nv _ (sl _ _), nv _ (val _), nv _ (val _), nv _ (sl _ _), nv _ (sl _ _), nv _ (sl _ _), nv _ (sl _ _), nv _ (val _)]) (B := []) (qr := [(false, [val _])]) (as_ := [(false, [val _])]) (by decide) OI rfl (by exact rfl) (by exact (Nm.val (Nm.val (Nm.val (Nm.val (Nm.val (Nm.val (Nm.val (Nm.val Nm.nil))))))))) (by exact ⟨rfl, ⟨⟩⟩) (by exact (aI (by exact tI) tI)) (by exact aI (aI rfl (ap am.nil)) tI) (by exact rfl) (by exact (Nm.nv (Nm.nv (Nm.nv (Nm.nv (Nm.nv (Nm.nv (Nm.nv (Nm.nv Nm.nil))))))))) (by exact (aN.nv (aN.nv (aN.nv (aN.nv (aN.nv (aN.nv (aN.nv (aN.nv aN.nil))))))))) (by exact OX (x := aE) (by omega) (by omega)) (by exact (bA.nv (bA.nv (bA.nv (bA.nv (bA.nv (bA.nv (bA.nv (bA.nv bA.nil))))))))) (fun x hx => hx) (by exact lq) (by exact lq) (by exact ai.nil) (by exact ai.nil) rfl ?_
 refine aO (by exact ⟨rfl, ⟨⟩⟩) (by exact tI) (ay.of rfl (be (.inr rfl) (by decide) (by exact Cp.sc))) aG ?_
 refine dO ?_
 refine aP ?_
 refine sP [1, 2, 4, 5, 6, 7, 8, 9, 10, 11, 12] [2, 6, 8, 10] ?_
 refine Rt (s := 9) (by exact rfl) fun us hus => ?_
 obtain ⟨u10_0, rfl⟩ := uL hus
 have hq11 := bp Cw aL (gT aE 1).2
 have hq12 := SV aL (gT aE 1).2
 refine sP [1, 2, 4, 5, 6, 7, 8, 9, 10, 11, 12] [2, 6, 8, 10] ?_
 refine jq ?_
 refine aO (by exact ⟨rfl, ⟨⟩⟩) (by exact tI) (ay.of rfl (be (r' := RV.sv false [val _]) (.inl rfl) (by decide) (by exact Cp.sv (am.cons cN am.nil) (an.cons (bor_val _) an.nil)))) aG ?_
 refine aO (by exact ⟨rfl, ⟨⟩⟩) (by exact tI) (ay.of rfl (be (.inl rfl) (by decide) (by exact Cp.sc))) aG ?_
 refine ff (l := [(1, RV.sv false [sl (.lo _) _]), (2, RV.ptr 2 0), (4, RV.sv false [val _]), (5, RV.sv false [val _]), (6, RV.ptr 6 0), (7, RV.sv false [val _]), (8, RV.ptr 8 0), (9, RV.sv false [nv _ (sl _ _)]), (10, RV.ptr 10 0), (11, RV.sv false [val _]), (12, RV.sv false [val _]), (67, RV.sv false [val _]), (68, RV.sv false [val _])]) (b := [(2, (80, [sl (.lo _) _, val _, val _, sl (.lo _) _, sl (.lo _) _, sl (.lo _) _, sl (.lo _) _, val _])), (6, (32, [sl _ _, val _, val _, sl _ _, sl _ _, sl _ _, sl _ _, val _])), (8, (32, [nv _ (sl _ _), nv _ (val _), nv _ (val _), nv _ (sl _ _), nv _ (sl _ _), nv _ (sl _ _), nv _ (sl _ _), nv _ (val _)])), (10, (32, [sl _ _, val _, val _, sl _ _, sl _ _, sl _ _, sl _ _, val _]))]) (by exact ⟨rfl, rfl, rfl, rfl, rfl, rfl, rfl, rfl, rfl, rfl, rfl, rfl, rfl, ⟨⟩⟩) (by exact ⟨rfl, rfl, rfl, rfl, ⟨⟩⟩) ?_
 refine Rw (s := 9) (L := (Lw w0.heap.size)) (qr := [(false, [val _])]) (as_ := [(false, [val _])]) (by decide) Xx rfl (by exact rfl) (by exact (Nm.val Nm.nil)) (by exact ⟨rfl, ⟨⟩⟩) (by exact (aI (by exact tI) tI)) (by exact aI (aI rfl (ap am.nil)) tI) (by exact rfl) (by exact (Nm.nv Nm.nil)) (by exact (aN.nv aN.nil)) (by exact Za (x := aL) (by omega) (by omega)) (by exact (bA.nv bA.nil)) (fun x hx => hx) (by exact lq) (by exact lq) rfl (by decide) ?_
 refine aO (by exact ⟨rfl, ⟨⟩⟩) (by exact tI) (ay.of rfl (be (.inr rfl) (by decide) (by exact Cp.sc))) aG ?_
 refine dO ?_
 refine aP ?_
 refine sS [1, 2, 4, 5, 6, 7, 8, 9, 10, 11, 12] [2, 6, 8, 10] ?_
 refine iU ?_
 refine rM ?_
 refine cx 72 (fun gb sgb => ?_) (fun gb sgb => ?_)
 ·first | (simp [iW] at gb; done) | (simp only [decide_eq_true_eq] at gb; omega)
 refine rB gb ?_ (x := lD [sl .v _, val _, val _, sl .v _, sl .v _, sl .v _, sl .v _, val _] bU)
 refine rB gb ?_ (x := lD [sl .v _, val _, val _, sl .v _, sl .v _, sl .v _, sl .v _, val _] bU)
 refine rB gb ?_ (x := cL [(true, [sl _ _, val _, val _, sl _ _, sl _ _, sl _ _, sl _ _, val _]), (true, [sl _ _, val _, val _, sl _ _, sl _ _, sl _ _, sl _ _, val _])] [(true, [sl .v _, val _, val _, sl .v _, sl .v _, sl .v _, sl .v _, val _]), (true, [sl .v _, val _, val _, sl .v _, sl .v _, sl .v _, sl .v _, val _])] CZ (hs := by exact Dd))
 refine sE ?_
 refine cx 78 (fun gc sgc => ?_) (fun gc sgc => ?_)
 ·first | (simp [iW] at gc; done) | (simp only [decide_eq_true_eq] at gc; omega)
 refine rB gc ?_ (x := sM)
 refine Cg ?_
 refine rA ?_ (x := aK gc)
 refine sc (fun hbf => ?_) (fun hbf => ?_)
 ·first | exact absurd rfl hbf | (simp [iW] at hbf; done) | omega
 refine bm ?_
 refine sS [1, 2, 4, 5, 6, 7, 8, 9, 10, 11, 12] [2, 6, 8, 10] ?_
 refine fh ?_
 refine sP [1, 2, 4, 5, 6, 7, 8, 9, 10, 11, 12, 13] [2, 6, 8, 10] ?_
 refine nI (d := 10) (A := []) (ms := [sl _ _, val _, val _, sl _ _, sl _ _, sl _ _, sl _ _, val _]) (B := []) (by exact rfl) fun us hus => ?_
 obtain ⟨u16_0, u16_1, u16_2, u16_3, u16_4, u16_5, u16_6, u16_7, rfl⟩ := xQ hus
 have hq17 := ML (fO aE aL).1 1
 have hq18 := MN (fO aE aL).1 1
 refine sO [(1, _), (2, _), (4, _), (5, _), (6, _), (7, _), (8, _), (9, _), (10, _), (11, _), (12, _), (13, _)] [(2, _), (6, _), (8, _), (10, (32, [nv _ (sl _ _), nv _ (val _), nv _ (val _), nv _ (sl _ _), nv _ (sl _ _), nv _ (sl _ _), nv _ (sl _ _), nv _ (val _)]))] ?_
 refine jq ?_
 refine aO (by exact ⟨rfl, ⟨⟩⟩) (by exact ⟨rfl, ⟨⟩⟩) (ay.of rfl (eW (qs := [val _, val _, val _, val _, val _, val _, val _, val _]) (by decide) bU (fun h => nomatch h) (by exact nl rfl) (by exact (am.cons cN (am.cons cN (am.cons cN (am.cons cN (am.cons cN (am.cons cN (am.cons cN (am.cons cN am.nil))))))))) (by exact lq))) aG ?_
 refine aO (by exact ⟨rfl, ⟨⟩⟩) (by exact tI) (ay.of rfl (be (.inl rfl) (by decide) (by exact Cp.sc))) aG ?_
 refine ff (l := [(1, RV.sv false [sl (.lo _) _]), (2, RV.ptr 2 0), (4, RV.sv false [val _]), (5, RV.sv false [val _]), (6, RV.ptr 6 0), (7, RV.sv false [val _]), (8, RV.ptr 8 0), (9, RV.sv false [nv _ (sl _ _)]), (10, RV.ptr 10 0), (11, RV.sv false [val _]), (12, RV.sv false [val _]), (13, RV.sv false [val _]), (83, RV.sv true [val _, val _, val _, val _, val _, val _, val _, val _]), (84, RV.sv false [val _])]) (b := [(2, (80, [sl (.lo _) _, val _, val _, sl (.lo _) _, sl (.lo _) _, sl (.lo _) _, sl (.lo _) _, val _])), (6, (32, [sl _ _, val _, val _, sl _ _, sl _ _, sl _ _, sl _ _, val _])), (8, (32, [nv _ (sl _ _), nv _ (val _), nv _ (val _), nv _ (sl _ _), nv _ (sl _ _), nv _ (sl _ _), nv _ (sl _ _), nv _ (val _)])), (10, (32, [nv _ (sl _ _), nv _ (val _), nv _ (val _), nv _ (sl _ _), nv _ (sl _ _), nv _ (sl _ _), nv _ (sl _ _), nv _ (val _)]))]) (by exact ⟨rfl, rfl, rfl, rfl, rfl, rfl, rfl, rfl, rfl, rfl, rfl, rfl, rfl, rfl, ⟨⟩⟩) (by exact ⟨rfl, rfl, rfl, rfl, ⟨⟩⟩) ?_
 refine nL (bx := 10) (L := (Lw w0.heap.size)) (A := []) (ms := [nv _ (sl _ _), nv _ (val _), nv _ (val _), nv _ (sl _ _), nv _ (sl _ _), nv _ (sl _ _), nv _ (sl _ _), nv _ (val _)]) (B := []) (qr := [(false, [val _])]) (as_ := [(false, [val _])]) (by decide) OI rfl (by exact rfl) (by exact (Nm.val (Nm.val (Nm.val (Nm.val (Nm.val (Nm.val (Nm.val (Nm.val Nm.nil))))))))) (by exact ⟨rfl, ⟨⟩⟩) (by exact (aI (by exact tI) tI)) (by exact aI (aI rfl (ap am.nil)) tI) (by exact rfl) (by exact (Nm.nv (Nm.nv (Nm.nv (Nm.nv (Nm.nv (Nm.nv (Nm.nv (Nm.nv Nm.nil))))))))) (by exact (aN.nv (aN.nv (aN.nv (aN.nv (aN.nv (aN.nv (aN.nv (aN.nv aN.nil))))))))) (by exact OX (x := (fO aE aL).1) (by omega) (by omega)) (by exact (bA.nv (bA.nv (bA.nv (bA.nv (bA.nv (bA.nv (bA.nv (bA.nv bA.nil))))))))) (fun x hx => hx) (by exact lq) (by exact lq) (by exact ai.nil) (by exact ai.nil) rfl ?_
 refine aO (by exact ⟨rfl, ⟨⟩⟩) (by exact tI) (ay.of rfl (be (.inr rfl) (by decide) (by exact Cp.sc))) aG ?_
 refine dO ?_
 refine sS [1, 2, 4, 5, 6, 7, 8, 9, 10, 11, 12, 13] [2, 6, 8, 10] ?_
 refine rK ?_
 refine sS [1, 2, 4, 5, 6, 7, 8, 9, 10, 11, 12, 13, 14] [2, 6, 8, 10] ?_
 refine JK ?_
 refine eZ ?_
 refine sS [1, 2, 4, 5, 6, 7, 8, 9, 10, 11, 12, 13, 14] [2, 6, 8, 10] ?_
 refine iU ?_
 refine sc (fun hbg => ?_) (fun hbg => ?_)
 ·first | exact absurd rfl hbg | (simp [iW] at hbg; done) | omega
 refine dt ?_
 refine sS [1, 2, 4, 5, 6, 7, 8, 9, 10, 11, 12, 13, 14] [2, 6, 8, 10] ?_
 refine la ?_
 refine rA ?_ (x := eX)
 refine sc (fun hbh => ?_) (fun hbh => ?_)
 ·first | exact absurd rfl hbh | (simp [iW] at hbh; done) | omega
 refine bm ?_
 refine sS [1, 2, 4, 5, 6, 7, 8, 9, 10, 11, 12, 13, 14] [2, 6, 8, 10] ?_
 refine Aw ?_
 refine wM ?_
 refine JN ?_
 refine qu ?_
 refine jU ?_
 refine eZ ?_
 refine aP ?_
 refine sO [(1, _), (2, _), (4, _), (5, _), (6, _), (7, _), (8, _), (9, _), (10, _), (11, _), (12, _), (13, _), (14, _), (15, _), (16, _)] [(2, _), (6, _), (8, _), (10, _), (15, (32, [sl _ _, val _, val _, sl _ _, sl _ _, sl _ _, sl _ _, val _]))] ?_
 refine Br ?_
 refine JA ?_
 refine gp ?_
 refine cx 106 (fun gd sgd => ?_) (fun gd sgd => ?_)
 ·first | (simp [iW] at gd; done) | (simp only [decide_eq_true_eq] at gd; omega)
 refine rB gd ?_ (x := sM)
 refine rB gd ?_ (x := sM)
 refine rB gd ?_ (x := eX)
 refine rA ?_ (x := aK gd)
 refine sc (fun hbi => ?_) (fun hbi => ?_)
 ·first | exact absurd rfl hbi | (simp [iW] at hbi; done) | omega
 refine Ms ?_
 refine rK ?_
 refine sS [1, 2, 4, 5, 6, 7, 8, 9, 10, 11, 12, 13, 14, 15, 16] [2, 6, 8, 10, 15] ?_
 refine JK ?_
 refine eZ ?_
 refine sS [1, 2, 4, 5, 6, 7, 8, 9, 10, 11, 12, 13, 14, 15, 16] [2, 6, 8, 10, 15] ?_
 refine iU ?_
 refine sc (fun hbj => ?_) (fun hbj => ?_)
 ·first | exact absurd rfl hbj | (simp [iW] at hbj; done) | omega
 refine dt ?_
 refine sS [1, 2, 4, 5, 6, 7, 8, 9, 10, 11, 12, 13, 14, 15, 16] [2, 6, 8, 10, 15] ?_
 refine la ?_
 refine rA ?_ (x := eX)
 refine sc (fun hbk => ?_) (fun hbk => ?_)
 ·first | exact absurd rfl hbk | (simp [iW] at hbk; done) | omega
 refine Ms ?_
 refine rK ?_
 exact tL
end Go.Proofs.YtmekkgdboplbjaaGreat
