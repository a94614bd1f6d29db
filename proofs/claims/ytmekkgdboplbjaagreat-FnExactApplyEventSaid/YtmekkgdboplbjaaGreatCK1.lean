/- What functions of the program compute. No condition. -/
import Derived.Test.YtmekkgdboplbjaaGreatCH0
import Derived.Test.YtmekkgdboplbjaaGreatCI0
import Derived.Test.YtmekkgdboplbjaaGreatCJ0
import Derived.Test.YtmekkgdboplbjaaGreatCK0
import Derived.Test.YtmekkgdboplbjaaGreatCJ1
set_option linter.all false
namespace Go.Proofs.YtmekkgdboplbjaaGreat
open Go Go.RowKit M PV
set_option maxRecDepth 10000
set_option maxHeartbeats 8000000
attribute [local irreducible] PV.Lcl PV.LclR RV.Lcl
def BW : Tryz.prog.underlying 4 = some .bool := by kernel_rfl
def V8 {p1 p2 p5 p6 p7 p8 p9 p11 p12 p13 p14 p16 p17 p18 : Fl} {aE : aL} {aX : eH}  : aC Tryz.prog 5 [(true, [sl .v (aE.Store.Wr.map (aD p1 p2)), val (vI aE.Store.Now), val (vI aE.Ww), sl .v (aE.Order.map ak), sl .v (aE.Ws.map (aO p5 p6 p7 p8 p9)), sl .v (aE.Done.map (aZ p11 p12 p13 p14)), sl .v (aE.WE.map (a7 p16 p17 p18)), val (vI aE.Steps)]), (true, [val (vI aX.Kind), val (vI aX.Wt.Id), val (vI aX.Wt.Wx), sl .v (aX.Wt.Wu.map bf), sl .v (aX.Wt.Out.map ak), val (vI aX.Limit), val (vI aX.Id), val (vI aX.Wv.Kind), val (vI aX.Wv.Row.Id), sl .v (aX.Wv.Row.Values.map ak), val (vI aX.Wv.Field), val (vI aX.Wv.Value), val (vI aX.Steps)])] (az [(false, [val (.bool true)])]) := by
 refine j3 (largs := fun L => [(true, [sl (.lo L) (aE.Store.Wr.map (aD (.lo L) (.lo L))), val (vI aE.Store.Now), val (vI aE.Ww), sl (.lo L) (aE.Order.map ak), sl (.lo L) (aE.Ws.map (aO (.lo L) (.lo L) (.lo L) (.lo L) (.lo L))), sl (.lo L) (aE.Done.map (aZ (.lo L) (.lo L) (.lo L) (.lo L))), sl (.lo L) (aE.WE.map (a7 (.lo L) (.lo L) (.lo L))), val (vI aE.Steps)]), (true, [val (vI aX.Kind), val (vI aX.Wt.Id), val (vI aX.Wt.Wx), sl (.lo L) (aX.Wt.Wu.map bf), sl (.lo L) (aX.Wt.Out.map ak), val (vI aX.Limit), val (vI aX.Id), val (vI aX.Wv.Kind), val (vI aX.Wv.Row.Id), sl (.lo L) (aX.Wv.Row.Values.map ak), val (vI aX.Wv.Field), val (vI aX.Wv.Value), val (vI aX.Steps)])]) (rs := [(false, [val (.bool true)])]) Tryz.func5 rfl (nl rfl) (fun L => by exact (aI (aI rfl (ab.cons (aM (fun _ => nl rfl) (fun _ => (ab.cons (aM (fun _ => nl rfl) (fun _ => (ab.cons ap (ab.cons (aM (fun _ => nl rfl) (fun _ => (ab.cons ap ab.nil))) (ab.cons ap (ab.cons ap ab.nil)))))) ab.nil))) (ab.cons ap (ab.cons ap (ab.cons (aM (fun _ => nl rfl) (fun _ => (ab.cons ap ab.nil))) (ab.cons (aM (fun _ => nl rfl) (fun _ => (ab.cons ap (ab.cons ap (ab.cons (aM (fun _ => nl rfl) (fun _ => (ab.cons ap (ab.cons ap (ab.cons ap ab.nil))))) (ab.cons (aM (fun _ => nl rfl) (fun _ => (ab.cons ap ab.nil))) (ab.cons ap (ab.cons (aM (fun _ => nl rfl) (fun _ => (ab.cons ap ab.nil))) (ab.cons ap (ab.cons ap (ab.cons ap (ab.cons (aM (fun _ => nl rfl) (fun _ => (ab.cons ap (ab.cons (aM (fun _ => nl rfl) (fun _ => (ab.cons ap ab.nil))) ab.nil)))) ab.nil)))))))))))) (ab.cons (aM (fun _ => nl rfl) (fun _ => (ab.cons ap (ab.cons ap (ab.cons (aM (fun _ => nl rfl) (fun _ => (ab.cons ap (ab.cons ap (ab.cons ap ab.nil))))) (ab.cons (aM (fun _ => nl rfl) (fun _ => (ab.cons ap ab.nil))) (ab.cons ap (ab.cons ap (ab.cons (aM (fun _ => nl rfl) (fun _ => (ab.cons ap (ab.cons (aM (fun _ => nl rfl) (fun _ => (ab.cons ap ab.nil))) ab.nil)))) ab.nil))))))))) (ab.cons (aM (fun _ => nl rfl) (fun _ => (ab.cons ap (ab.cons ap (ab.cons (aM (fun _ => nl rfl) (fun _ => (ab.cons ap ab.nil))) (ab.cons (aM (fun _ => nl rfl) (fun _ => (ab.cons ap ab.nil))) (ab.cons (aM (fun _ => nl rfl) (fun _ => (ab.cons ap ab.nil))) ab.nil))))))) (ab.cons ap ab.nil))))))))) (aI (aI rfl (ab.cons ap (ab.cons ap (ab.cons ap (ab.cons (aM (fun _ => nl rfl) (fun _ => (ab.cons ap (ab.cons ap (ab.cons ap ab.nil))))) (ab.cons (aM (fun _ => nl rfl) (fun _ => (ab.cons ap ab.nil))) (ab.cons ap (ab.cons ap (ab.cons ap (ab.cons ap (ab.cons (aM (fun _ => nl rfl) (fun _ => (ab.cons ap ab.nil))) (ab.cons ap (ab.cons ap (ab.cons ap ab.nil)))))))))))))) tI))) (fun L => by exact lq) ?_
 intro w0 Fz0
 refine sn 0 0 fun hl0_0 => ?_
 refine sn 0 3 fun hl0_3 => ?_
 refine sn 0 4 fun hl0_4 => ?_
 refine sn 0 5 fun hl0_5 => ?_
 refine sn 0 6 fun hl0_6 => ?_
 refine sn 1 3 fun hl1_3 => ?_
 refine sn 1 4 fun hl1_4 => ?_
 refine sn 1 9 fun hl1_9 => ?_
 refine qD ?_
 refine rX ?_ (x := (cI (ag := true) (cs := [val _, val _, val _, sl (.lo _) _, sl (.lo _) _, val _, val _, val _, val _, sl (.lo _) _, val _, val _, val _]) (by decide) (by exact tI)))
 refine dz ?_
 refine sO [(2, _), (3, _), (4, _)] [(2, (80, [sl (.lo _) _, val _, val _, sl (.lo _) _, sl (.lo _) _, sl (.lo _) _, sl (.lo _) _, val _])), (3, (88, [val _, val _, val _, sl (.lo _) _, sl (.lo _) _, val _, val _, val _, val _, sl (.lo _) _, val _, val _, val _]))] ?_
 refine ba ?_
 refine rK ?_
 refine sS [2, 3, 4, 5] [2, 3] ?_
 refine rA ?_ (x := lD [sl (.lo _) _, val _, val _, sl (.lo _) _, sl (.lo _) _, sl (.lo _) _, sl (.lo _) _, val _] tz)
 refine rM ?_
 refine rA ?_ (x := cL [(true, [sl (.lo _) _, val _, val _, sl (.lo _) _, sl (.lo _) _, sl (.lo _) _, sl (.lo _) _, val _]), (false, [val _])] [(true, [sl .v _, val _, val _, sl .v _, sl .v _, sl .v _, sl .v _, val _]), (false, [val _])] R9 (hs := by exact SP (by omega) (by omega)))
 refine fA ?_
 refine sS [2, 3, 4, 5] [2, 3] ?_
 refine iv ?_
 refine sc (fun hba => ?_) (fun hba => ?_)
 exact Gh
 have hp0 := d7 (w := bp aE) (l := 1048576) hba
 have he0 := ci hp0
 refine bl ?_
 refine sS [2, 3, 4, 5] [2, 3] ?_
 refine rA ?_ (x := lD [val _, val _, val _, sl (.lo _) _, sl (.lo _) _, val _, val _, val _, val _, sl (.lo _) _, val _, val _, val _] tr)
 refine rM ?_
 refine rA ?_ (x := cL [(true, [val _, val _, val _, sl (.lo _) _, sl (.lo _) _, val _, val _, val _, val _, sl (.lo _) _, val _, val _, val _]), (false, [val _])] [(true, [val _, val _, val _, sl .v _, sl .v _, val _, val _, val _, val _, sl .v _, val _, val _, val _]), (false, [val _])] PX (hs := by exact SI (by omega) (by omega)))
 refine fA ?_
 refine sS [2, 3, 4, 5] [2, 3] ?_
 refine iv ?_
 refine sc (fun hbb => ?_) (fun hbb => ?_)
 exact Gh
 have hp1 := d7 (w := jO aX) (l := (bL 1048576 (bp aE))) hbb
 have he1 := ci hp1
 have hw0 := Vx aE aX
 refine cO ?_
 refine sP [2, 3, 4, 5] [2, 3] ?_
 refine xv (c := 4) (AI := [(8, ⟨[], [], [(6, some (RV.ptr 6 0))], [(6, some (32, [sl bo [], val (.int .i64 0), val (.int .i64 0), sl aa [], sl bS [], sl bM [], sl bP [], val (.int .i64 0)]))], some 6⟩)]) cJ rfl rfl rfl rfl (by kernel_rfl) (fun j L h o ho => by have h := fy h; simp only [ii, List.not_mem_nil, or_false, Prod.mk.injEq] at h; obtain ⟨rfl, rfl⟩ := h; (· cases (show some ⟨some 6, .alloc 32, _, _, _, none⟩ = some o from ho); apply ax.of rfl; exact bR (d := 6) (by decide) jR jT)) (fun j L h d hd => by have h := fy h; simp only [ii, List.not_mem_nil, or_false, Prod.mk.injEq] at h; obtain ⟨rfl, rfl⟩ := h; (· cases (show some _ = some d from hd); exact cD.of_ rfl)) ?_
 refine Gn ?_
 refine Gl ?_
 refine xw (G := 2000) (qs := [(true, [sl _ _, val _, val _, sl _ _, sl _ _, sl _ _, sl _ _, val _]), (true, [val _, val _, val _, sl _ _, sl _ _, val _, val _, val _, val _, sl _ _, val _, val _, val _])]) (as_ := [(true, [sl .v _, val _, val _, sl .v _, sl .v _, sl .v _, sl .v _, val _]), (true, [val _, val _, val _, sl .v _, sl .v _, val _, val _, val _, val _, sl .v _, val _, val _, val _])]) (by decide) RR (by exact ⟨rfl, rfl, ⟨⟩⟩) (by exact (aI (by exact tI) (aI (by exact tI) tI))) (by exact (aI (aI rfl (aF (an (an (aF (aF (aF (aF (an am.nil))))))))) (aI (aI rfl (an (an (an (aF (aF (an (an (an (an (aF (an (an (an am.nil)))))))))))))) tI))) (by exact (V7 (by omega) (by omega))) (by kernel_rfl) (by kernel_rfl) fun uss hU0 => ?_
 obtain ⟨us0, r0, rfl, hl0, hR0, hU1⟩ := gQ.cons hU0
 obtain ⟨u3_0_0, u3_0_1, u3_0_2, u3_0_3, u3_0_4, u3_0_5, u3_0_6, u3_0_7, rfl⟩ := th hl0
 obtain rfl := mg hR0 (j := 1) rfl rfl
 obtain rfl := mg hR0 (j := 2) rfl rfl
 obtain rfl := mg hR0 (j := 7) rfl rfl
 obtain ⟨us1, r1, rfl, hl1, hR1, hU2⟩ := gQ.cons hU1
 obtain ⟨u3_1_0, rfl⟩ := tg hl1
 obtain rfl := mg hR1 (j := 0) rfl rfl
 obtain rfl := gQ.nil hU2
 clear hR0 hU0 hR1 hU1 hU2
 refine Hf ?_
 refine GX ?_
 refine xn (d := 6) (G := 2000) (by exact rfl) (by exact (Nm.val (Nm.val (Nm.val (Nm.val (Nm.val (Nm.val (Nm.val (Nm.val Nm.nil))))))))) (by exact rfl) ?_
 refine rR (s := 7) (G := 2001) (by exact rfl) (by exact (Nm.val Nm.nil)) rfl (by decide) (by exact rfl) ?_
 refine aP ?_
 refine sO [(2, _), (3, _), (4, _), (5, _), (6, _), (7, _)] [(2, _), (3, _), (6, (32, [sl _ _, val _, val _, sl _ _, sl _ _, sl _ _, sl _ _, val _]))] ?_
 refine ba ?_
 refine rA ?_ (x := lD [sl (.lo _) _, val _, val _, sl (.lo _) _, sl (.lo _) _, sl (.lo _) _, sl (.lo _) _, val _] tz)
 refine rA ?_ (x := cL [(true, [sl (.lo _) _, val _, val _, sl (.lo _) _, sl (.lo _) _, sl (.lo _) _, sl (.lo _) _, val _])] [(true, [sl .v _, val _, val _, sl .v _, sl .v _, sl .v _, sl .v _, val _])] A4 (hs := by exact Ba (by omega)))
 refine mp ?_
 refine aP ?_
 refine sO [(2, _), (3, _), (4, _), (5, _), (6, _), (7, _), (8, _)] [(2, _), (3, _), (6, _), (8, (32, [sl _ _, val _, val _, sl _ _, sl _ _, sl _ _, sl _ _, val _]))] ?_
 refine ba ?_
 refine rA ?_ (x := lD [val _, val _, val _, sl (.lo _) _, sl (.lo _) _, val _, val _, val _, val _, sl (.lo _) _, val _, val _, val _] tr)
 refine rA ?_ (x := cL [(true, [val _, val _, val _, sl (.lo _) _, sl (.lo _) _, val _, val _, val _, val _, sl (.lo _) _, val _, val _, val _])] [(true, [val _, val _, val _, sl .v _, sl .v _, val _, val _, val _, val _, sl .v _, val _, val _, val _])] AG (hs := by exact A9 (by omega)))
 refine rX ?_ (x := (bR (by decide) AM AO))
 refine rA ?_ (x := bd (ag := true) (vs := [val _, val _, val _, sl _ _, sl _ _, val _, val _, val _, val _, sl _ _, val _, val _, val _]) mR (by exact tI) (by exact rfl) (by exact nl rfl))
 refine aP ?_
 refine sO [(2, _), (3, _), (4, _), (5, _), (6, _), (7, _), (8, _), (9, _)] [(2, _), (3, _), (6, _), (8, _), (9, (58, [val _, val _, val _, sl _ _, sl _ _, val _, val _, val _, val _, sl _ _, val _, val _, val _]))] ?_
 refine zq ?_
 refine rA ?_ (x := lD [val _, val _, val _, sl .v _, sl .v _, val _, val _, val _, val _, sl .v _, val _, val _, val _] mR)
 refine rA ?_ (x := cL [(true, [sl _ _, val _, val _, sl _ _, sl _ _, sl _ _, sl _ _, val _]), (true, [val _, val _, val _, sl _ _, sl _ _, val _, val _, val _, val _, sl _ _, val _, val _, val _])] [(true, [sl .v _, val _, val _, sl .v _, sl .v _, sl .v _, sl .v _, val _]), (true, [val _, val _, val _, sl .v _, sl .v _, val _, val _, val _, val _, sl .v _, val _, val _, val _])] KM (hs := by exact (Md (by omega) (by omega))))
 refine rA ?_ (x := tM)
 refine uB ?_
 refine mp ?_
 refine fA ?_
 refine aP ?_
 refine sO [(2, _), (3, _), (4, _), (5, _), (6, _), (7, _), (8, _), (9, _), (10, _), (11, _)] [(2, _), (3, _), (6, _), (8, _), (9, _), (10, (32, [sl _ _, val _, val _, sl _ _, sl _ _, sl _ _, sl _ _, val _]))] ?_
 refine zq ?_
 refine GB ?_
 refine fB ?_
 refine cx 49 (fun ga sga => ?_) (fun ga sga => ?_)
 ·first | (simp [ix] at ga; done) | (simp only [decide_eq_true_eq] at ga; omega)
 refine rB ga ?_ (x := sM)
 refine rB ga ?_ (x := sM)
 refine rB ga ?_ (x := tX (by decide) BW (by exact tI) (by exact tI))
 refine rA ?_ (x := aK ga)
 refine sc (fun hbc => ?_) (fun hbc => ?_)
 ·first | exact absurd rfl hbc | (simp [ix] at hbc; done) | omega
 refine cO ?_
 refine aP ?_
 refine sP [2, 3, 4, 5, 6, 7, 8, 9, 10, 11] [2, 3, 6, 8, 9, 10] ?_
 refine zo ?_
 refine dA 0 ?_ (x := lD [sl (.lo _) _, val _, val _, sl (.lo _) _, sl (.lo _) _, sl (.lo _) _, sl (.lo _) _, val _] tz)
 refine dA 2 ?_ (x := cL [(true, [sl (.lo _) _, val _, val _, sl (.lo _) _, sl (.lo _) _, sl (.lo _) _, sl (.lo _) _, val _])] [(true, [sl .v _, val _, val _, sl .v _, sl .v _, sl .v _, sl .v _, val _])] A4 (hs := by exact Ba (by omega)))
 refine dA 7 ?_ (x := cL [(true, [sl _ _, val _, val _, sl _ _, sl _ _, sl _ _, sl _ _, val _]), (true, [sl _ _, val _, val _, sl _ _, sl _ _, sl _ _, sl _ _, val _])] [(true, [sl .v _, val _, val _, sl .v _, sl .v _, sl .v _, sl .v _, val _]), (true, [sl .v _, val _, val _, sl .v _, sl .v _, sl .v _, sl .v _, val _])] A5 (hs := by exact Bb))
 refine dA 15 ?_ (x := nT)
 refine sc (fun hbd => ?_) (fun hbd => ?_)
 ·first | exact absurd rfl hbd | (simp [ix] at hbd; done) | omega
 refine cO ?_
 refine aP ?_
 refine sP [2, 3, 4, 5, 6, 7, 8, 9, 10, 11] [2, 3, 6, 8, 9, 10] ?_
 refine db cJ ?_
 refine dA 0 ?_ (x := lD [val _, val _, val _, sl .v _, sl .v _, val _, val _, val _, val _, sl .v _, val _, val _, val _] mR)
 refine dA 0 ?_ (x := lD [val _, val _, val _, sl (.lo _) _, sl (.lo _) _, val _, val _, val _, val _, sl (.lo _) _, val _, val _, val _] tr)
 refine dA 2 ?_ (x := cL [(true, [val _, val _, val _, sl (.lo _) _, sl (.lo _) _, val _, val _, val _, val _, sl (.lo _) _, val _, val _, val _])] [(true, [val _, val _, val _, sl .v _, sl .v _, val _, val _, val _, val _, sl .v _, val _, val _, val _])] AG (hs := by exact A9 (by omega)))
 refine dA 7 ?_ (x := cL [(true, [val _, val _, val _, sl _ _, sl _ _, val _, val _, val _, val _, sl _ _, val _, val _, val _]), (true, [val _, val _, val _, sl _ _, sl _ _, val _, val _, val _, val _, sl _ _, val _, val _, val _])] [(true, [val _, val _, val _, sl .v _, sl .v _, val _, val _, val _, val _, sl .v _, val _, val _, val _]), (true, [val _, val _, val _, sl .v _, sl .v _, val _, val _, val _, val _, sl .v _, val _, val _, val _])] PY (hs := by exact Ti))
 refine dA 15 ?_ (x := nT)
 refine sc (fun hbe => ?_) (fun hbe => ?_)
 ·first | exact absurd rfl hbe | (simp [ix] at hbe; done) | omega
 refine bl ?_
 refine sS [2, 3, 4, 5, 6, 7, 8, 9, 10, 11] [2, 3, 6, 8, 9, 10] ?_
 refine dz ?_
 refine sP [2, 3, 4, 5, 6, 7, 8, 9, 10, 11, 12] [2, 3, 6, 8, 9, 10] ?_
 refine md (d := 8) (A := []) (ms := [sl _ _, val _, val _, sl _ _, sl _ _, sl _ _, sl _ _, val _]) (B := []) (by exact rfl) fun us hus => ?_
 obtain ⟨u8_0, u8_1, u8_2, u8_3, u8_4, u8_5, u8_6, u8_7, rfl⟩ := th hus
 have hq9 := Jh aE 1
 have hq10 := Jj aE 1
 refine sO [(2, _), (3, _), (4, _), (5, _), (6, _), (7, _), (8, _), (9, _), (10, _), (11, _), (12, _)] [(2, _), (3, _), (6, _), (8, (32, [nv _ (sl _ _), nv _ (val _), nv _ (val _), nv _ (sl _ _), nv _ (sl _ _), nv _ (sl _ _), nv _ (sl _ _), nv _ (val _)])), (9, _), (10, _)] ?_
 refine gv ?_
 refine aN (by exact ⟨rfl, ⟨⟩⟩) (by exact ⟨rfl, ⟨⟩⟩) (ax.of rfl (df (qs := [val _, val _, val _, val _, val _, val _, val _, val _]) (by decide) bZ (fun h => nomatch h) (by exact nl rfl) (by exact (am.cons bH (am.cons bH (am.cons bH (am.cons bH (am.cons bH (am.cons bH (am.cons bH (am.cons bH am.nil))))))))) (by exact lq))) aH ?_
 refine aN (by exact ⟨rfl, ⟨⟩⟩) (by exact tI) (ax.of rfl (bc (.inl rfl) (by decide) (by exact Cp.sc))) aH ?_
 refine d3 (l := [(2, RV.ptr 2 0), (3, RV.ptr 3 0), (4, RV.sv false [val _]), (5, RV.sv false [val _]), (6, RV.ptr 6 0), (7, RV.sv false [val _]), (8, RV.ptr 8 0), (9, RV.ptr 9 0), (10, RV.ptr 10 0), (11, RV.sv false [val _]), (12, RV.sv false [val _]), (64, RV.sv true [val _, val _, val _, val _, val _, val _, val _, val _]), (65, RV.sv false [val _])]) (b := [(2, (80, [sl (.lo _) _, val _, val _, sl (.lo _) _, sl (.lo _) _, sl (.lo _) _, sl (.lo _) _, val _])), (3, (88, [val _, val _, val _, sl (.lo _) _, sl (.lo _) _, val _, val _, val _, val _, sl (.lo _) _, val _, val _, val _])), (6, (32, [sl _ _, val _, val _, sl _ _, sl _ _, sl _ _, sl _ _, val _])), (8, (32, [nv _ (sl _ _), nv _ (val _), nv _ (val _), nv _ (sl _ _), nv _ (sl _ _), nv _ (sl _ _), nv _ (sl _ _), nv _ (val _)])), (9, (58, [val _, val _, val _, sl _ _, sl _ _, val _, val _, val _, val _, sl _ _, val _, val _, val _])), (10, (32, [sl _ _, val _, val _, sl _ _, sl _ _, sl _ _, sl _ _, val _]))]) (by exact ⟨rfl, rfl, rfl, rfl, rfl, rfl, rfl, rfl, rfl, rfl, rfl, rfl, rfl, ⟨⟩⟩) (by exact ⟨rfl, rfl, rfl, rfl, rfl, rfl, ⟨⟩⟩) ?_
 refine io (bx := 8) (L := (Lw w0.heap.size)) (A := []) (ms := [nv _ (sl _ _), nv _ (val _), nv _ (val _), nv _ (sl _ _), nv _ (sl _ _), nv _ (sl _ _), nv _ (sl _ _), nv _ (val _)]) (B := []) (qr := [(false, [val _])]) (as_ := [(false, [val _])]) (by decide) KP rfl (by exact rfl) (by exact (Nm.val (Nm.val (Nm.val (Nm.val (Nm.val (Nm.val (Nm.val (Nm.val Nm.nil))))))))) (by exact ⟨rfl, ⟨⟩⟩) (by exact (aI (by exact tI) tI)) (by exact aI (aI rfl (an am.nil)) tI) (by exact rfl) (by exact (Nm.nv (Nm.nv (Nm.nv (Nm.nv (Nm.nv (Nm.nv (Nm.nv (Nm.nv Nm.nil))))))))) (by exact (aA.nv (aA.nv (aA.nv (aA.nv (aA.nv (aA.nv (aA.nv (aA.nv aA.nil))))))))) (by exact K5 (x := aE) (by omega) (by omega)) (by exact (bb.nv (bb.nv (bb.nv (bb.nv (bb.nv (bb.nv (bb.nv (bb.nv bb.nil))))))))) (fun x hx => hx) (by exact lc) (by exact lq) (by exact ai.nil) (by exact ai.nil) rfl ?_
 refine aN (by exact ⟨rfl, ⟨⟩⟩) (by exact tI) (ax.of rfl (bc (.inr rfl) (by decide) (by exact Cp.sc))) aH ?_
 refine dg ?_
 refine aP ?_
 refine sP [2, 3, 4, 5, 6, 7, 8, 9, 10, 11, 12] [2, 3, 6, 8, 9, 10] ?_
 refine md (d := 9) (A := []) (ms := [val _, val _, val _, sl _ _, sl _ _, val _, val _, val _, val _, sl _ _, val _, val _, val _]) (B := []) (by exact rfl) fun us hus => ?_
 obtain ⟨u11_0, u11_1, u11_2, u11_3, u11_4, u11_5, u11_6, u11_7, u11_8, u11_9, u11_10, u11_11, u11_12, rfl⟩ := I3 hus
 have hq12 := Oa aX (gm aE 1).2
 have hq13 := Oi aX (gm aE 1).2
 refine sO [(2, _), (3, _), (4, _), (5, _), (6, _), (7, _), (8, _), (9, _), (10, _), (11, _), (12, _)] [(2, _), (3, _), (6, _), (8, _), (9, (58, [nv _ (val _), nv _ (val _), nv _ (val _), nv _ (sl _ _), nv _ (sl _ _), nv _ (val _), nv _ (val _), nv _ (val _), nv _ (val _), nv _ (sl _ _), nv _ (val _), nv _ (val _), nv _ (val _)])), (10, _)] ?_
 refine gv ?_
 refine aN (by exact ⟨rfl, ⟨⟩⟩) (by exact ⟨rfl, ⟨⟩⟩) (ax.of rfl (df (qs := [val _, val _, val _, val _, val _, val _, val _, val _, val _, val _, val _, val _, val _]) (by decide) mR (fun h => nomatch h) (by exact nl rfl) (by exact (am.cons bH (am.cons bH (am.cons bH (am.cons bH (am.cons bH (am.cons bH (am.cons bH (am.cons bH (am.cons bH (am.cons bH (am.cons bH (am.cons bH (am.cons bH am.nil)))))))))))))) (by exact lq))) aH ?_
 refine aN (by exact ⟨rfl, ⟨⟩⟩) (by exact tI) (ax.of rfl (bc (.inl rfl) (by decide) (by exact Cp.sc))) aH ?_
 refine d3 (l := [(2, RV.ptr 2 0), (3, RV.ptr 3 0), (4, RV.sv false [val _]), (5, RV.sv false [val _]), (6, RV.ptr 6 0), (7, RV.sv false [val _]), (8, RV.ptr 8 0), (9, RV.ptr 9 0), (10, RV.ptr 10 0), (11, RV.sv false [val _]), (12, RV.sv false [val _]), (67, RV.sv true [val _, val _, val _, val _, val _, val _, val _, val _, val _, val _, val _, val _, val _]), (68, RV.sv false [val _])]) (b := [(2, (80, [sl (.lo _) _, val _, val _, sl (.lo _) _, sl (.lo _) _, sl (.lo _) _, sl (.lo _) _, val _])), (3, (88, [val _, val _, val _, sl (.lo _) _, sl (.lo _) _, val _, val _, val _, val _, sl (.lo _) _, val _, val _, val _])), (6, (32, [sl _ _, val _, val _, sl _ _, sl _ _, sl _ _, sl _ _, val _])), (8, (32, [nv _ (sl _ _), nv _ (val _), nv _ (val _), nv _ (sl _ _), nv _ (sl _ _), nv _ (sl _ _), nv _ (sl _ _), nv _ (val _)])), (9, (58, [nv _ (val _), nv _ (val _), nv _ (val _), nv _ (sl _ _), nv _ (sl _ _), nv _ (val _), nv _ (val _), nv _ (val _), nv _ (val _), nv _ (sl _ _), nv _ (val _), nv _ (val _), nv _ (val _)])), (10, (32, [sl _ _, val _, val _, sl _ _, sl _ _, sl _ _, sl _ _, val _]))]) (by exact ⟨rfl, rfl, rfl, rfl, rfl, rfl, rfl, rfl, rfl, rfl, rfl, rfl, rfl, ⟨⟩⟩) (by exact ⟨rfl, rfl, rfl, rfl, rfl, rfl, ⟨⟩⟩) ?_
 refine io (bx := 9) (L := (Lw w0.heap.size)) (A := []) (ms := [nv _ (val _), nv _ (val _), nv _ (val _), nv _ (sl _ _), nv _ (sl _ _), nv _ (val _), nv _ (val _), nv _ (val _), nv _ (val _), nv _ (sl _ _), nv _ (val _), nv _ (val _), nv _ (val _)]) (B := []) (qr := [(false, [val _])]) (as_ := [(false, [val _])]) (by decide) Sa rfl (by exact rfl) (by exact (Nm.val (Nm.val (Nm.val (Nm.val (Nm.val (Nm.val (Nm.val (Nm.val (Nm.val (Nm.val (Nm.val (Nm.val (Nm.val Nm.nil)))))))))))))) (by exact ⟨rfl, ⟨⟩⟩) (by exact (aI (by exact tI) tI)) (by exact aI (aI rfl (an am.nil)) tI) (by exact rfl) (by exact (Nm.nv (Nm.nv (Nm.nv (Nm.nv (Nm.nv (Nm.nv (Nm.nv (Nm.nv (Nm.nv (Nm.nv (Nm.nv (Nm.nv (Nm.nv Nm.nil)))))))))))))) (by exact (aA.nv (aA.nv (aA.nv (aA.nv (aA.nv (aA.nv (aA.nv (aA.nv (aA.nv (aA.nv (aA.nv (aA.nv (aA.nv aA.nil)))))))))))))) (by exact Tv (x := aX) (by omega) (by omega)) (by exact (bb.nv (bb.nv (bb.nv (bb.nv (bb.nv (bb.nv (bb.nv (bb.nv (bb.nv (bb.nv (bb.nv (bb.nv (bb.nv bb.nil)))))))))))))) (fun x hx => hx) (by exact lc) (by exact lq) (by exact ai.nil) (by exact ai.nil) rfl ?_
 refine aN (by exact ⟨rfl, ⟨⟩⟩) (by exact tI) (ax.of rfl (bc (.inr rfl) (by decide) (by exact Cp.sc))) aH ?_
 refine dg ?_
 refine aP ?_
 refine sS [2, 3, 4, 5, 6, 7, 8, 9, 10, 11, 12] [2, 3, 6, 8, 9, 10] ?_
 refine iv ?_
 refine rM ?_
 refine cx 72 (fun gb sgb => ?_) (fun gb sgb => ?_)
 ·first | (simp [ix] at gb; done) | (simp only [decide_eq_true_eq] at gb; omega)
 refine rB gb ?_ (x := lD [sl .v _, val _, val _, sl .v _, sl .v _, sl .v _, sl .v _, val _] bZ)
 refine rB gb ?_ (x := lD [sl .v _, val _, val _, sl .v _, sl .v _, sl .v _, sl .v _, val _] bZ)
 refine rB gb ?_ (x := cL [(true, [sl _ _, val _, val _, sl _ _, sl _ _, sl _ _, sl _ _, val _]), (true, [sl _ _, val _, val _, sl _ _, sl _ _, sl _ _, sl _ _, val _])] [(true, [sl .v _, val _, val _, sl .v _, sl .v _, sl .v _, sl .v _, val _]), (true, [sl .v _, val _, val _, sl .v _, sl .v _, sl .v _, sl .v _, val _])] A5 (hs := by exact Bb))
 refine qZ ?_
 refine cx 78 (fun gc sgc => ?_) (fun gc sgc => ?_)
 ·first | (simp [ix] at gc; done) | (simp only [decide_eq_true_eq] at gc; omega)
 refine rB gc ?_ (x := sM)
 refine rB gc ?_ (x := sM)
 refine rB gc ?_ (x := tX (by decide) BW (by exact tI) (by exact tI))
 refine rA ?_ (x := aK gc)
 refine sc (fun hbf => ?_) (fun hbf => ?_)
 ·first | exact absurd rfl hbf | (simp [ix] at hbf; done) | omega
 refine bl ?_
 refine sS [2, 3, 4, 5, 6, 7, 8, 9, 10, 11, 12] [2, 3, 6, 8, 9, 10] ?_
 refine dz ?_
 refine sP [2, 3, 4, 5, 6, 7, 8, 9, 10, 11, 12, 13] [2, 3, 6, 8, 9, 10] ?_
 refine md (d := 10) (A := []) (ms := [sl _ _, val _, val _, sl _ _, sl _ _, sl _ _, sl _ _, val _]) (B := []) (by exact rfl) fun us hus => ?_
 obtain ⟨u17_0, u17_1, u17_2, u17_3, u17_4, u17_5, u17_6, u17_7, rfl⟩ := th hus
 have hq18 := Jh (dP aE aX).1 1
 have hq19 := Jj (dP aE aX).1 1
 refine sO [(2, _), (3, _), (4, _), (5, _), (6, _), (7, _), (8, _), (9, _), (10, _), (11, _), (12, _), (13, _)] [(2, _), (3, _), (6, _), (8, _), (9, _), (10, (32, [nv _ (sl _ _), nv _ (val _), nv _ (val _), nv _ (sl _ _), nv _ (sl _ _), nv _ (sl _ _), nv _ (sl _ _), nv _ (val _)]))] ?_
 refine gv ?_
 refine aN (by exact ⟨rfl, ⟨⟩⟩) (by exact ⟨rfl, ⟨⟩⟩) (ax.of rfl (df (qs := [val _, val _, val _, val _, val _, val _, val _, val _]) (by decide) bZ (fun h => nomatch h) (by exact nl rfl) (by exact (am.cons bH (am.cons bH (am.cons bH (am.cons bH (am.cons bH (am.cons bH (am.cons bH (am.cons bH am.nil))))))))) (by exact lq))) aH ?_
 refine aN (by exact ⟨rfl, ⟨⟩⟩) (by exact tI) (ax.of rfl (bc (.inl rfl) (by decide) (by exact Cp.sc))) aH ?_
 refine d3 (l := [(2, RV.ptr 2 0), (3, RV.ptr 3 0), (4, RV.sv false [val _]), (5, RV.sv false [val _]), (6, RV.ptr 6 0), (7, RV.sv false [val _]), (8, RV.ptr 8 0), (9, RV.ptr 9 0), (10, RV.ptr 10 0), (11, RV.sv false [val _]), (12, RV.sv false [val _]), (13, RV.sv false [val _]), (83, RV.sv true [val _, val _, val _, val _, val _, val _, val _, val _]), (84, RV.sv false [val _])]) (b := [(2, (80, [sl (.lo _) _, val _, val _, sl (.lo _) _, sl (.lo _) _, sl (.lo _) _, sl (.lo _) _, val _])), (3, (88, [val _, val _, val _, sl (.lo _) _, sl (.lo _) _, val _, val _, val _, val _, sl (.lo _) _, val _, val _, val _])), (6, (32, [sl _ _, val _, val _, sl _ _, sl _ _, sl _ _, sl _ _, val _])), (8, (32, [nv _ (sl _ _), nv _ (val _), nv _ (val _), nv _ (sl _ _), nv _ (sl _ _), nv _ (sl _ _), nv _ (sl _ _), nv _ (val _)])), (9, (58, [nv _ (val _), nv _ (val _), nv _ (val _), nv _ (sl _ _), nv _ (sl _ _), nv _ (val _), nv _ (val _), nv _ (val _), nv _ (val _), nv _ (sl _ _), nv _ (val _), nv _ (val _), nv _ (val _)])), (10, (32, [nv _ (sl _ _), nv _ (val _), nv _ (val _), nv _ (sl _ _), nv _ (sl _ _), nv _ (sl _ _), nv _ (sl _ _), nv _ (val _)]))]) (by exact ⟨rfl, rfl, rfl, rfl, rfl, rfl, rfl, rfl, rfl, rfl, rfl, rfl, rfl, rfl, ⟨⟩⟩) (by exact ⟨rfl, rfl, rfl, rfl, rfl, rfl, ⟨⟩⟩) ?_
 refine io (bx := 10) (L := (Lw w0.heap.size)) (A := []) (ms := [nv _ (sl _ _), nv _ (val _), nv _ (val _), nv _ (sl _ _), nv _ (sl _ _), nv _ (sl _ _), nv _ (sl _ _), nv _ (val _)]) (B := []) (qr := [(false, [val _])]) (as_ := [(false, [val _])]) (by decide) KP rfl (by exact rfl) (by exact (Nm.val (Nm.val (Nm.val (Nm.val (Nm.val (Nm.val (Nm.val (Nm.val Nm.nil))))))))) (by exact ⟨rfl, ⟨⟩⟩) (by exact (aI (by exact tI) tI)) (by exact aI (aI rfl (an am.nil)) tI) (by exact rfl) (by exact (Nm.nv (Nm.nv (Nm.nv (Nm.nv (Nm.nv (Nm.nv (Nm.nv (Nm.nv Nm.nil))))))))) (by exact (aA.nv (aA.nv (aA.nv (aA.nv (aA.nv (aA.nv (aA.nv (aA.nv aA.nil))))))))) (by exact K5 (x := (dP aE aX).1) (by omega) (by omega)) (by exact (bb.nv (bb.nv (bb.nv (bb.nv (bb.nv (bb.nv (bb.nv (bb.nv bb.nil))))))))) (fun x hx => hx) (by exact lc) (by exact lq) (by exact ai.nil) (by exact ai.nil) rfl ?_
 refine aN (by exact ⟨rfl, ⟨⟩⟩) (by exact tI) (ax.of rfl (bc (.inr rfl) (by decide) (by exact Cp.sc))) aH ?_
 refine dg ?_
 refine sS [2, 3, 4, 5, 6, 7, 8, 9, 10, 11, 12, 13] [2, 3, 6, 8, 9, 10] ?_
 refine rK ?_
 refine sS [2, 3, 4, 5, 6, 7, 8, 9, 10, 11, 12, 13, 14] [2, 3, 6, 8, 9, 10] ?_
 refine GM ?_
 refine fA ?_
 refine sS [2, 3, 4, 5, 6, 7, 8, 9, 10, 11, 12, 13, 14] [2, 3, 6, 8, 9, 10] ?_
 refine iv ?_
 refine sc (fun hbg => ?_) (fun hbg => ?_)
 ·first | exact absurd rfl hbg | (simp [ix] at hbg; done) | omega
 refine cO ?_
 refine sS [2, 3, 4, 5, 6, 7, 8, 9, 10, 11, 12, 13, 14] [2, 3, 6, 8, 9, 10] ?_
 refine j8 ?_
 refine rA ?_ (x := eM)
 refine sc (fun hbh => ?_) (fun hbh => ?_)
 ·first | exact absurd rfl hbh | (simp [ix] at hbh; done) | omega
 refine cO ?_
 refine sP [2, 3, 4, 5, 6, 7, 8, 9, 10, 11, 12, 13, 14] [2, 3, 6, 8, 9, 10] ?_
 refine xv (c := 4) (AI := [(8, ⟨[], [], [(15, some (RV.ptr 15 0))], [(15, some (32, [sl bo [], val (.int .i64 0), val (.int .i64 0), sl aa [], sl bS [], sl bM [], sl bP [], val (.int .i64 0)]))], some 15⟩)]) cJ rfl rfl rfl rfl (by kernel_rfl) (fun j L h o ho => by have h := fy h; simp only [ii, List.not_mem_nil, or_false, Prod.mk.injEq] at h; obtain ⟨rfl, rfl⟩ := h; (· cases (show some ⟨some 15, .alloc 32, _, _, _, none⟩ = some o from ho); apply ax.of rfl; exact bR (d := 15) (by decide) jR jT)) (fun j L h d hd => by have h := fy h; simp only [ii, List.not_mem_nil, or_false, Prod.mk.injEq] at h; obtain ⟨rfl, rfl⟩ := h; (· cases (show some _ = some d from hd); exact cD.of_ rfl)) ?_
 refine Gn ?_
 refine Gl ?_
 refine xw (G := 2000) (qs := [(true, [sl _ _, val _, val _, sl _ _, sl _ _, sl _ _, sl _ _, val _]), (true, [val _, val _, val _, sl _ _, sl _ _, val _, val _, val _, val _, sl _ _, val _, val _, val _])]) (as_ := [(true, [sl .v _, val _, val _, sl .v _, sl .v _, sl .v _, sl .v _, val _]), (true, [val _, val _, val _, sl .v _, sl .v _, val _, val _, val _, val _, sl .v _, val _, val _, val _])]) (by decide) KM (by exact ⟨rfl, rfl, ⟨⟩⟩) (by exact (aI (by exact tI) (aI (by exact tI) tI))) (by exact (aI (aI rfl (aF (an (an (aF (aF (aF (aF (an am.nil))))))))) (aI (aI rfl (an (an (an (aF (aF (an (an (an (an (aF (an (an (an am.nil)))))))))))))) tI))) (by exact (Md (by omega) (by omega))) (by kernel_rfl) (by kernel_rfl) fun uss hU0 => ?_
 obtain ⟨us0, r0, rfl, hl0, hR0, hU1⟩ := gQ.cons hU0
 obtain ⟨u22_0_0, u22_0_1, u22_0_2, u22_0_3, u22_0_4, u22_0_5, u22_0_6, u22_0_7, rfl⟩ := th hl0
 obtain rfl := mg hR0 (j := 1) rfl rfl
 obtain rfl := mg hR0 (j := 2) rfl rfl
 obtain rfl := mg hR0 (j := 7) rfl rfl
 obtain ⟨us1, r1, rfl, hl1, hR1, hU2⟩ := gQ.cons hU1
 obtain ⟨u22_1_0, rfl⟩ := tg hl1
 obtain rfl := mg hR1 (j := 0) rfl rfl
 obtain rfl := gQ.nil hU2
 clear hR0 hU0 hR1 hU1 hU2
 refine Hf ?_
 refine GX ?_
 refine xn (d := 15) (G := 2000) (by exact rfl) (by exact (Nm.val (Nm.val (Nm.val (Nm.val (Nm.val (Nm.val (Nm.val (Nm.val Nm.nil))))))))) (by exact rfl) ?_
 refine rR (s := 16) (G := 2001) (by exact rfl) (by exact (Nm.val Nm.nil)) rfl (by decide) (by exact rfl) ?_
 refine eO ?_
 refine sO [(2, _), (3, _), (4, _), (5, _), (6, _), (7, _), (8, _), (9, _), (10, _), (11, _), (12, _), (13, _), (14, _), (15, _), (16, _)] [(2, _), (3, _), (6, _), (8, _), (9, _), (10, _), (15, (32, [sl _ _, val _, val _, sl _ _, sl _ _, sl _ _, sl _ _, val _]))] ?_
 refine zq ?_
 refine GB ?_
 refine fB ?_
 refine cx 106 (fun gd sgd => ?_) (fun gd sgd => ?_)
 ·first | (simp [ix] at gd; done) | (simp only [decide_eq_true_eq] at gd; omega)
 refine rB gd ?_ (x := sM)
 refine rB gd ?_ (x := sM)
 refine rB gd ?_ (x := tX (by decide) BW (by exact tI) (by exact tI))
 refine rA ?_ (x := aK gd)
 refine sc (fun hbi => ?_) (fun hbi => ?_)
 ·first | exact absurd rfl hbi | (simp [ix] at hbi; done) | omega
 refine IT ?_
 refine rK ?_
 refine sS [2, 3, 4, 5, 6, 7, 8, 9, 10, 11, 12, 13, 14, 15, 16] [2, 3, 6, 8, 9, 10, 15] ?_
 refine GM ?_
 refine fA ?_
 refine sS [2, 3, 4, 5, 6, 7, 8, 9, 10, 11, 12, 13, 14, 15, 16] [2, 3, 6, 8, 9, 10, 15] ?_
 refine iv ?_
 refine sc (fun hbj => ?_) (fun hbj => ?_)
 ·first | exact absurd rfl hbj | (simp [ix] at hbj; done) | omega
 refine cO ?_
 refine sS [2, 3, 4, 5, 6, 7, 8, 9, 10, 11, 12, 13, 14, 15, 16] [2, 3, 6, 8, 9, 10, 15] ?_
 refine j8 ?_
 refine rA ?_ (x := eM)
 refine sc (fun hbk => ?_) (fun hbk => ?_)
 ·first | exact absurd rfl hbk | (simp [ix] at hbk; done) | omega
 refine IT ?_
 refine rK ?_
 exact uh
end Go.Proofs.YtmekkgdboplbjaaGreat
