/- What functions of the program compute. No condition. -/
import Derived.Test.YtmekkgdboplbjaaGreatCF1
set_option linter.all false
namespace Go.Proofs.YtmekkgdboplbjaaGreat
open Go Go.RowKit M PV Tryz
set_option maxRecDepth 10000
attribute [local irreducible] PV.Lcl PV.LclR RV.Lcl
set_option maxHeartbeats 8000000
def VT : fO prog 63 = some [(0, 4), (4, 1), (5, 1), (6, 1)] := by kernel_rfl
def VU {e : aL}  (hoe : bh e = true) (hst : e.Steps < 100000) (hld : (e.WE.length : Int) < 1000) (hda : (e.Done.length : Int) + (e.Ws.length : Int) ≤ 1000) (hb : bp e ≤ 68719000000) : rY prog 159 32 [sl bo (e.Store.Wr.map (aD aS aa)), val (vI e.Store.Now), val (vI e.Ww), sl aa (e.Order.map ak), sl bS (e.Ws.map (aO ay aa aa aB aa)), sl bM (e.Done.map (aZ ay aa aB aa)), sl bP (e.WE.map (a7 aa aa aa)), val (vI e.Steps)] [sl bo ((dj (ja e)).Store.Wr.map (aD aS aa)), val (vI (dj (ja e)).Store.Now), val (vI (dj (ja e)).Ww), sl aa ((dj (ja e)).Order.map ak), sl bS ((dj (ja e)).Ws.map (aO ay aa aa aB aa)), sl bM ((dj (ja e)).Done.map (aZ ay aa aB aa)), sl bP ((dj (ja e)).WE.map (a7 aa aa aa)), val (vI (dj (ja e)).Steps)] [] (az []) := by
 refine xE (rs := []) func159 rfl (nl rfl) (nl rfl) ?_
 intro g_ h0 w0 Fz0
 have hef := gI hoe
 have hcl : e.Ww.toNat < e.Store.Wr.length := hef.2.2.2.1
 have hpl := wo (e := e)
 have hswt := Bx hoe
 obtain ⟨hs8, hs1, _, _, _, _⟩ := l6 hef.1
 have hbu := hb
 simp only [bp, c6, dK, dJ] at hbu
 refine sR ?_
 refine kz ?_
 refine rA ?_ (x := lD [sl .v _, val _, val _, sl .v _, sl .v _, sl .v _, sl .v _, val _] bZ)
 refine rA ?_ (x := cL [(true, [sl _ _, val _, val _, sl _ _, sl _ _, sl _ _, sl _ _, val _])] [(true, [sl .v _, val _, val _, sl .v _, sl .v _, sl .v _, sl .v _, val _])] RG (hs := by exact (Us (by omega))))
 refine qP ?_
 refine sT [0, 2, 5000] [0] ?_
 refine iV ?_
 refine rA ?_ (x := eg)
 refine sc (fun hba => ?_) (fun hba => ?_)
 have hled : gL e (parts e).length = e.WE ++ [fV e (parts e).length] := by unfold gL; rw [if_neg (by omega)]
 refine sP [0, 2, 5000] [0] ?_
 refine gv ?_
 refine wA ?_ (x := cM Cp.ptr)
 refine wA ?_ (x := tM)
 refine wO [(0, _), (14, _), (15, _), (5000, _)] [(0, _)] ?_
 refine r5 (bx := 0) (L := da) (qs := [(false, [sl _ _])]) (as_ := [(false, [sl _ _])]) (by decide) RQ rfl (by exact rfl) (by exact rfl) (by exact ⟨rfl, ⟨⟩⟩) (by exact (aI (by exact tI) tI)) (by decide) (by exact (aI (aI rfl (aA.cons OTo.refl aA.nil)) tI)) (by exact (VS (e := e) rfl hoe (by omega))) (fun x hx => hx.elim) (by exact lq) (by exact (aI (.inl rfl) tI)) ?_
 refine dg ?_
 refine sT [0, 5000] [0] ?_
 refine kz ?_
 refine rA ?_ (x := lF gE)
 refine kC ?_
 refine rS ?_
 refine sS [0, 3, 5000] [0] ?_
 refine st ?_
 refine aP ?_
 refine sS [0, 3, 4, 5000] [0] ?_
 refine cz ?_
 refine sP [0, 3, 4, 5, 5000] [0] ?_
 refine bV (d := 0) (by exact rfl) (show _ = [sl bo (e.Store.Wr.map (aD aS aa)), val (vI e.Store.Now), val (vI e.Ww), sl aa (e.Order.map ak), sl bS ((bX e (parts e).length).map (aO ay aa aa aB aa)), sl bM (e.Done.map (aZ ay aa aB aa)), sl bP ((gL e (parts e).length).map (a7 aa aa aa)), val (vI e.Steps)] from by first | (rw [hled]; done) | (rw [hled]; exact rfl) | (rw [hled, hsv]; done) | (rw [hled, hsv]; exact rfl)) ?_
 refine sP [0, 3, 4, 5, 5000] [0] ?_
 refine qo (d := 0) (t := 108) (e := 10) (G := 6200) (A := [sl _ _, val _, val _, sl _ _]) (B := [sl _ _, sl _ _, val _]) (f := (aO ay aa aa aB aa)) (g := (fun z : Ws => [val (vI z.Wt.Id), val (vI z.Wt.Wx), sl .v (z.Wt.Wu.map bf), sl .v (z.Wt.Out.map ak), val (vI z.Time), sl .v (z.WB.map ak), val (vI z.Age), val (vI z.Sent), val (vI z.Cap), sl .v (z.Rows.map (bu aa))])) (fN := en) (xs := (bX e (parts e).length)) (by exact rfl) (by exact rfl) (fun _ _ => rfl) (fun _ => rfl) (fun _ => (an (an (aF (aF (an (aF (an (an (an (aF am.nil))))))))))) (fun _ => (by exact lq)) fun za hza => ?_
 have hzal : za.length = e.Ws.length := by rw [← ar (f := Prod.fst), hza, jE]
 refine sQ [0, 3, 4, 5, 5000, 6200] [0] ?_
 refine sL [0, 3, 5000] [] (fun m : Nat => m ≤ e.Ws.length) (fun m : Nat => [(4, RV.slc bS ((jD e (parts e).length m).map (aO ay aa aa aB aa))), (5, RV.int (m : Int)), (6200, RV.gh (bi 10 (za.drop m)) (bG (aO ay aa aa aB aa) (za.drop m)))]) (fun m : Nat => [(0, (32, [sl bo (e.Store.Wr.map (aD aS aa)), val (vI e.Store.Now), val (vI e.Ww), sl aa (e.Order.map ak), sl .v (za.map en), sl bM ((e.Done ++ fK e (parts e).length m).map (aZ ay aa aB aa)), sl bP ((gL e (parts e).length).map (a7 aa aa aa)), val (vI e.Steps)]))]) (fun m : Nat => e.Ws.length - m) 0 (by omega) (by exact aI (by exact rfl) (aI (by exact rfl) (aI (by exact rfl) tI))) (by exact aI (by show _ = some (32, [sl bo (e.Store.Wr.map (aD aS aa)), val (vI e.Store.Now), val (vI e.Ww), sl aa (e.Order.map ak), sl .v (za.map en), sl bM ((e.Done ++ fK e (parts e).length 0).map (aZ ay aa aB aa)), sl bP ((gL e (parts e).length).map (a7 aa aa aa)), val (vI e.Steps)]); rw [show fK e (parts e).length 0 = [] from rfl, dH]; exact rfl) tI) ?_
 rintro m hm
 have hrl2 := wP (e := e) (k := (parts e).length) (m := m)
 have hdl2 := wQ (e := e) (k := (parts e).length) (m := m)
 refine d6 ?_
 refine kz ?_
 refine pp ?_
 refine sc (fun hbb => ?_) (fun hbb => ?_)
 have hltm : m < e.Ws.length := by omega
 have hltz : m < za.length := by omega
 have hm2 : m < (bX e (parts e).length).length := by rw [jE]; exact hltm
 have hm1 : m < (cH e (parts e).length).length := by rw [tB]; exact hltm
 have hz3 : za[m].1 = (bX e (parts e).length)[m] := by simp [← hza]
 have hab := wS hoe hltm hm2
 rw [← hz3] at hab
 refine bB ?_
 refine sT [0, 3, 4, 5, 5000, 6200] [0] ?_
 refine kz ?_
 refine ji ?_
 refine rM ?_
 refine uC ?_
 refine uG ?_
 refine sO [(0, _), (3, _), (4, _), (5, _), (6, _), (5000, _), (6200, _)] [(0, _), (6, (108, [nv _ (val _), nv _ (val _), nv _ (sl _ _), nv _ (sl _ _), nv _ (val _), nv _ (sl _ _), nv _ (val _), nv _ (val _), nv _ (val _), nv _ (sl _ _)]))] ?_
 refine GF ?_
 refine uN ?_
 refine rA ?_ (x := lF kP)
 refine lx ?_
 refine vE ?_
 refine aP ?_
 refine uN ?_
 refine sV ?_
 refine rM ?_
 refine zp ?_
 refine sc (fun hbc => ?_) (fun hbc => ?_)
 have hga : (cH e (parts e).length)[m] = (⟨za[m].1.Wt, za[m].1.Time, za[m].1.WB, za[m].1.Age + 1, 0, za[m].1.Cap, za[m].1.Rows⟩ : Ws) := by rw [rE hm1 hm2, ← hz3]; exact Br hbc
 refine sG [0, 3, 4, 5, 6, 5000, 6200] [0, 6] ?_
 refine zh ?_
 refine aP ?_
 refine uN ?_
 exact FV
 have hga : (cH e (parts e).length)[m] = (⟨za[m].1.Wt, za[m].1.Time, za[m].1.WB, za[m].1.Age + 1, za[m].1.Sent, za[m].1.Cap, za[m].1.Rows⟩ : Ws) := by rw [rE hm1 hm2, ← hz3]; exact Bs hbc
 refine bl ?_
 refine sS [0, 3, 4, 5, 6, 5000, 6200] [0, 6] ?_
 exact FV
 have hend2 : m = e.Ws.length := by omega
 subst hend2
 refine bF ?_
 refine sT [0, 3, 4, 5, 5000, 6200] [0] ?_
 refine rA ?_ (x := cM Cp.ptr)
 refine rA ?_ (x := tM)
 refine rA ?_ (x := iu (by decide))
 refine oU ?_
 refine sT [0, 3, 5, 5000, 6200] [0] ?_
 refine vP ?_
 refine pi ?_
 refine c0 ?_
 refine zss ?_
 refine Ix ?_
 refine sT [0, 3, 5, 5000, 6200] [0] ?_
 refine vP ?_
 refine rA ?_ (x := lF ju)
 refine lx ?_
 refine rA ?_ (x := iu (by decide))
 refine Iy ?_
 refine sQ [0, 3, 5, 5000] [0] ?_
 refine gv ?_
 refine wA ?_ (x := cM Cp.ptr)
 refine wO [(0, _), (3, _), (5, _), (98, _), (5000, _)] [(0, _)] ?_
 exact FW
 have hled : gL e (parts e).length = e.WE := by unfold gL; rw [if_pos (by omega)]
 have hsv : (bX e (parts e).length) = e.Ws := by rw [show (parts e).length = 0 by omega]; exact Bm
 refine bl ?_
 refine sS [0, 2, 5000] [0] ?_
 refine kz ?_
 refine rA ?_ (x := lF gE)
 refine kC ?_
 refine rS ?_
 refine sS [0, 2, 3, 5000] [0] ?_
 refine st ?_
 refine aP ?_
 refine sS [0, 2, 3, 4, 5000] [0] ?_
 refine cz ?_
 refine sP [0, 2, 3, 4, 5, 5000] [0] ?_
 refine bV (d := 0) (by exact rfl) (show _ = [sl bo (e.Store.Wr.map (aD aS aa)), val (vI e.Store.Now), val (vI e.Ww), sl aa (e.Order.map ak), sl bS ((bX e (parts e).length).map (aO ay aa aa aB aa)), sl bM (e.Done.map (aZ ay aa aB aa)), sl bP ((gL e (parts e).length).map (a7 aa aa aa)), val (vI e.Steps)] from by first | (rw [hled]; done) | (rw [hled]; exact rfl) | (rw [hled, hsv]; done) | (rw [hled, hsv]; exact rfl)) ?_
 refine sP [0, 2, 3, 4, 5, 5000] [0] ?_
 refine qo (d := 0) (t := 108) (e := 10) (G := 6200) (A := [sl _ _, val _, val _, sl _ _]) (B := [sl _ _, sl _ _, val _]) (f := (aO ay aa aa aB aa)) (g := (fun z : Ws => [val (vI z.Wt.Id), val (vI z.Wt.Wx), sl .v (z.Wt.Wu.map bf), sl .v (z.Wt.Out.map ak), val (vI z.Time), sl .v (z.WB.map ak), val (vI z.Age), val (vI z.Sent), val (vI z.Cap), sl .v (z.Rows.map (bu aa))])) (fN := en) (xs := (bX e (parts e).length)) (by exact rfl) (by exact rfl) (fun _ _ => rfl) (fun _ => rfl) (fun _ => (an (an (aF (aF (an (aF (an (an (an (aF am.nil))))))))))) (fun _ => (by exact lq)) fun za hza => ?_
 have hzal : za.length = e.Ws.length := by rw [← ar (f := Prod.fst), hza, jE]
 refine sQ [0, 2, 3, 4, 5, 5000, 6200] [0] ?_
 refine sL [0, 2, 3, 5000] [] (fun m : Nat => m ≤ e.Ws.length) (fun m : Nat => [(4, RV.slc bS ((jD e (parts e).length m).map (aO ay aa aa aB aa))), (5, RV.int (m : Int)), (6200, RV.gh (bi 10 (za.drop m)) (bG (aO ay aa aa aB aa) (za.drop m)))]) (fun m : Nat => [(0, (32, [sl bo (e.Store.Wr.map (aD aS aa)), val (vI e.Store.Now), val (vI e.Ww), sl aa (e.Order.map ak), sl .v (za.map en), sl bM ((e.Done ++ fK e (parts e).length m).map (aZ ay aa aB aa)), sl bP ((gL e (parts e).length).map (a7 aa aa aa)), val (vI e.Steps)]))]) (fun m : Nat => e.Ws.length - m) 0 (by omega) (by exact aI (by exact rfl) (aI (by exact rfl) (aI (by exact rfl) tI))) (by exact aI (by show _ = some (32, [sl bo (e.Store.Wr.map (aD aS aa)), val (vI e.Store.Now), val (vI e.Ww), sl aa (e.Order.map ak), sl .v (za.map en), sl bM ((e.Done ++ fK e (parts e).length 0).map (aZ ay aa aB aa)), sl bP ((gL e (parts e).length).map (a7 aa aa aa)), val (vI e.Steps)]); rw [show fK e (parts e).length 0 = [] from rfl, dH]; exact rfl) tI) ?_
 rintro m hm
 have hrl2 := wP (e := e) (k := (parts e).length) (m := m)
 have hdl2 := wQ (e := e) (k := (parts e).length) (m := m)
 refine d6 ?_
 refine kz ?_
 refine pp ?_
 refine sc (fun hbb => ?_) (fun hbb => ?_)
 have hltm : m < e.Ws.length := by omega
 have hltz : m < za.length := by omega
 have hm2 : m < (bX e (parts e).length).length := by rw [jE]; exact hltm
 have hm1 : m < (cH e (parts e).length).length := by rw [tB]; exact hltm
 have hz3 : za[m].1 = (bX e (parts e).length)[m] := by simp [← hza]
 have hab := wS hoe hltm hm2
 rw [← hz3] at hab
 refine bB ?_
 refine sT [0, 2, 3, 4, 5, 5000, 6200] [0] ?_
 refine kz ?_
 refine ji ?_
 refine rM ?_
 refine uC ?_
 refine uG ?_
 refine sO [(0, _), (2, _), (3, _), (4, _), (5, _), (6, _), (5000, _), (6200, _)] [(0, _), (6, (108, [nv _ (val _), nv _ (val _), nv _ (sl _ _), nv _ (sl _ _), nv _ (val _), nv _ (sl _ _), nv _ (val _), nv _ (val _), nv _ (val _), nv _ (sl _ _)]))] ?_
 refine GF ?_
 refine uL ?_
 refine rA ?_ (x := lF kP)
 refine lx ?_
 refine vE ?_
 refine aP ?_
 refine uL ?_
 refine sV ?_
 refine rM ?_
 refine zp ?_
 refine sc (fun hbc => ?_) (fun hbc => ?_)
 have hga : (cH e (parts e).length)[m] = (⟨za[m].1.Wt, za[m].1.Time, za[m].1.WB, za[m].1.Age + 1, 0, za[m].1.Cap, za[m].1.Rows⟩ : Ws) := by rw [rE hm1 hm2, ← hz3]; exact Br hbc
 refine sG [0, 2, 3, 4, 5, 6, 5000, 6200] [0, 6] ?_
 refine zh ?_
 refine aP ?_
 refine uL ?_
 exact FX
 have hga : (cH e (parts e).length)[m] = (⟨za[m].1.Wt, za[m].1.Time, za[m].1.WB, za[m].1.Age + 1, za[m].1.Sent, za[m].1.Cap, za[m].1.Rows⟩ : Ws) := by rw [rE hm1 hm2, ← hz3]; exact Bs hbc
 refine bl ?_
 refine sS [0, 2, 3, 4, 5, 6, 5000, 6200] [0, 6] ?_
 exact FX
 have hend2 : m = e.Ws.length := by omega
 subst hend2
 refine bF ?_
 refine sT [0, 2, 3, 4, 5, 5000, 6200] [0] ?_
 refine rA ?_ (x := cM Cp.ptr)
 refine rA ?_ (x := tM)
 refine rA ?_ (x := iu (by decide))
 refine oU ?_
 refine sT [0, 2, 3, 5, 5000, 6200] [0] ?_
 refine vP ?_
 refine pi ?_
 refine c0 ?_
 refine zss ?_
 refine Ix ?_
 refine sT [0, 2, 3, 5, 5000, 6200] [0] ?_
 refine vP ?_
 refine rA ?_ (x := lF ju)
 refine lx ?_
 refine rA ?_ (x := iu (by decide))
 refine Iy ?_
 refine sQ [0, 2, 3, 5, 5000] [0] ?_
 refine gv ?_
 refine wA ?_ (x := cM Cp.ptr)
 refine wO [(0, _), (2, _), (3, _), (5, _), (98, _), (5000, _)] [(0, _)] ?_
 exact FW
def VV {p1 p2 p5 p6 p7 p8 p9 p11 p12 p13 p14 p16 p17 p18 : Fl} {e : aL}  (hb : bp e ≤ 68719000000) : aC prog 61 [(true, [sl .v (e.Store.Wr.map (aD p1 p2)), val (vI e.Store.Now), val (vI e.Ww), sl .v (e.Order.map ak), sl .v (e.Ws.map (aO p5 p6 p7 p8 p9)), sl .v (e.Done.map (aZ p11 p12 p13 p14)), sl .v (e.WE.map (a7 p16 p17 p18)), val (vI e.Steps)])] (az [(true, [sl bo ((c8 e).Store.Wr.map (aD aS aa)), val (vI (c8 e).Store.Now), val (vI (c8 e).Ww), sl aa ((c8 e).Order.map ak), sl bS ((c8 e).Ws.map (aO ay aa aa aB aa)), sl bM ((c8 e).Done.map (aZ ay aa aB aa)), sl bP ((c8 e).WE.map (a7 aa aa aa)), val (vI (c8 e).Steps)]), (false, [val (.bool (iF e))])]) := by
 refine j3 (largs := fun L => [(true, [sl (.lo L) (e.Store.Wr.map (aD (.lo L) (.lo L))), val (vI e.Store.Now), val (vI e.Ww), sl (.lo L) (e.Order.map ak), sl (.lo L) (e.Ws.map (aO (.lo L) (.lo L) (.lo L) (.lo L) (.lo L))), sl (.lo L) (e.Done.map (aZ (.lo L) (.lo L) (.lo L) (.lo L))), sl (.lo L) (e.WE.map (a7 (.lo L) (.lo L) (.lo L))), val (vI e.Steps)])]) (rs := [(true, [sl bo ((c8 e).Store.Wr.map (aD aS aa)), val (vI (c8 e).Store.Now), val (vI (c8 e).Ww), sl aa ((c8 e).Order.map ak), sl bS ((c8 e).Ws.map (aO ay aa aa aB aa)), sl bM ((c8 e).Done.map (aZ ay aa aB aa)), sl bP ((c8 e).WE.map (a7 aa aa aa)), val (vI (c8 e).Steps)]), (false, [val (.bool (iF e))])]) func61 rfl (nl rfl) (fun L => by exact (aI (aI rfl (ab.cons (aM (fun _ => nl rfl) (fun _ => (ab.cons (aM (fun _ => nl rfl) (fun _ => (ab.cons ap (ab.cons (aM (fun _ => nl rfl) (fun _ => (ab.cons ap ab.nil))) (ab.cons ap (ab.cons ap ab.nil)))))) ab.nil))) (ab.cons ap (ab.cons ap (ab.cons (aM (fun _ => nl rfl) (fun _ => (ab.cons ap ab.nil))) (ab.cons (aM (fun _ => nl rfl) (fun _ => (ab.cons ap (ab.cons ap (ab.cons (aM (fun _ => nl rfl) (fun _ => (ab.cons ap (ab.cons ap (ab.cons ap ab.nil))))) (ab.cons (aM (fun _ => nl rfl) (fun _ => (ab.cons ap ab.nil))) (ab.cons ap (ab.cons (aM (fun _ => nl rfl) (fun _ => (ab.cons ap ab.nil))) (ab.cons ap (ab.cons ap (ab.cons ap (ab.cons (aM (fun _ => nl rfl) (fun _ => (ab.cons ap (ab.cons (aM (fun _ => nl rfl) (fun _ => (ab.cons ap ab.nil))) ab.nil)))) ab.nil)))))))))))) (ab.cons (aM (fun _ => nl rfl) (fun _ => (ab.cons ap (ab.cons ap (ab.cons (aM (fun _ => nl rfl) (fun _ => (ab.cons ap (ab.cons ap (ab.cons ap ab.nil))))) (ab.cons (aM (fun _ => nl rfl) (fun _ => (ab.cons ap ab.nil))) (ab.cons ap (ab.cons ap (ab.cons (aM (fun _ => nl rfl) (fun _ => (ab.cons ap (ab.cons (aM (fun _ => nl rfl) (fun _ => (ab.cons ap ab.nil))) ab.nil)))) ab.nil))))))))) (ab.cons (aM (fun _ => nl rfl) (fun _ => (ab.cons ap (ab.cons ap (ab.cons (aM (fun _ => nl rfl) (fun _ => (ab.cons ap ab.nil))) (ab.cons (aM (fun _ => nl rfl) (fun _ => (ab.cons ap ab.nil))) (ab.cons (aM (fun _ => nl rfl) (fun _ => (ab.cons ap ab.nil))) ab.nil))))))) (ab.cons ap ab.nil))))))))) tI)) (fun L => by exact lq) ?_
 intro w0 Fz0
 refine sn 0 0 fun hl0_0 => ?_
 refine sn 0 3 fun hl0_3 => ?_
 refine sn 0 4 fun hl0_4 => ?_
 refine sn 0 5 fun hl0_5 => ?_
 refine sn 0 6 fun hl0_6 => ?_
 have hbu := hb
 simp only [bp, c6, dK, dJ] at hbu
 refine qD ?_
 refine He ?_
 refine yF ?_
 refine mp ?_
 refine Im ?_
 refine mr ?_
 refine GV ?_
 refine cx 10 (fun ga sga => ?_) (fun ga sga => ?_)
 refine jN ?_
 refine aq.cases (s := 15) rfl (fun g2 => ?_) (fun g2 => nomatch g2)
 refine oh ?_
 refine aq.cases (s := 21) rfl (fun g3 => ?_) (fun g3 => nomatch g3)
 exact FK
 refine rB ga ?_ (x := lF ju)
 refine rB ga ?_ (x := lD [val _] au)
 refine rB ga ?_ (x := hR)
 refine mB ?_
 refine cx 15 (fun gb sgb => ?_) (fun gb sgb => ?_)
 refine mE ?_
 refine aq.cases (s := 21) rfl (fun g6 => ?_) (fun g6 => nomatch g6)
 exact FL
 refine rB gb ?_ (x := lF jt)
 refine rB gb ?_ (x := lD [sl (.lo _) _] jz)
 refine rB gb ?_ (x := lN dY)
 refine rB gb ?_ (x := hR)
 refine oW ?_
 refine cx 21 (fun gc sgc => ?_) (fun gc sgc => ?_)
 exact FN
 refine rB gc ?_ (x := lF kd)
 refine rB gc ?_ (x := lD [sl (.lo _) _] kf)
 refine rB gc ?_ (x := lN ez)
 refine rB gc ?_ (x := lF dN)
 refine rB gc ?_ (x := lD [sl (.lo _) _] dC)
 refine rB gc ?_ (x := lN bI)
 refine rB gc ?_ (x := j4)
 refine rB gc ?_ (x := eg)
 refine rA ?_ (x := aK gc)
 refine sc (fun hba => ?_) (fun hba => ?_)
 exact se
 have hok : iF e = true := by
  have ho_ : bh e = true := by simp_all
  have hef_ := gI ho_
  unfold iF
  rw [ho_]
  simp only [Bool.true_and, bn, decide_eq_true_eq]
  exact ⟨by omega, by omega, by omega⟩
 obtain ⟨hoe, hst, hld, hda⟩ := wK hok
 refine cO ?_
 refine sP [1, 2, 3, 4] [1, 2, 4] ?_
 refine gv ?_
 refine wO [(1, _), (2, _), (3, _), (4, _)] [(1, _), (2, _), (4, _)] ?_
 refine r5 (bx := 4) (L := (Lw w0.heap.size)) (qs := []) (as_ := []) (by decide) RB rfl (by exact rfl) (by exact rfl) (by exact tI) (by exact tI) (by decide) (by exact tI) (by exact (VU (by assumption) (by omega) (by omega) (by omega) (by omega))) (fun x hx => hx) (by exact lq) (by exact lq) ?_
 refine dg ?_
 refine aP ?_
 refine sO [(1, _), (2, _), (3, _), (4, _)] [(1, _), (2, _), (4, (32, [sl _ _, val _, val _, sl _ _, sl _ _, sl _ _, sl _ _, val _]))] ?_
 refine rg ?_
 refine rK ?_
 exact FT
end Go.Proofs.YtmekkgdboplbjaaGreat
