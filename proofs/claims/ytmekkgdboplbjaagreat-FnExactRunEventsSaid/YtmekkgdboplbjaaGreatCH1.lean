/- What functions of the program compute. No condition. -/
import Derived.Test.YtmekkgdboplbjaaGreatCG1
set_option linter.all false
namespace Go.Proofs.YtmekkgdboplbjaaGreat
open Go Go.RowKit M PV Tryz
set_option maxRecDepth 10000
attribute [local irreducible] PV.Lcl PV.LclR RV.Lcl
set_option maxHeartbeats 8000000
def abQ : gE prog 63 = some [(0, 4), (4, 1), (5, 1), (6, 1)] := by kernel_rfl
def abR {e : aD}  (hoe : bk e = true) (hst : e.Steps < 100000) (hld : (e.acG.length : Int) < 1000) (hda : (e.Done.length : Int) + (e.acu.length : Int) ≤ 1000) (hb : bi e ≤ 68719000000) : tF prog 159 32 [sl bo (e.Store.act.map (aC aS aa)), val (vI e.Store.Now), val (vI e.acy), sl aa (e.Order.map ak), sl bS (e.acu.map (aQ aw aa aa az aa)), sl bJ (e.Done.map (aX aw aa az aa)), sl bP (e.acG.map (aZ aa aa aa)), val (vI e.Steps)] [sl bo ((dC (jL e)).Store.act.map (aC aS aa)), val (vI (dC (jL e)).Store.Now), val (vI (dC (jL e)).acy), sl aa ((dC (jL e)).Order.map ak), sl bS ((dC (jL e)).acu.map (aQ aw aa aa az aa)), sl bJ ((dC (jL e)).Done.map (aX aw aa az aa)), sl bP ((dC (jL e)).acG.map (aZ aa aa aa)), val (vI (dC (jL e)).Steps)] [] (aA []) := by
 refine zA (rs := []) func159 rfl (nl rfl) (nl rfl) ?_
 intro g_ h0 w0 Fz0
 have hef := ie hoe
 have hcl : e.acy.toNat < e.Store.act.length := hef.2.2.2.1
 have hpl := yg (e := e)
 have hswt := DC hoe
 obtain ⟨hs8, hs1, _, _, _, _⟩ := nq hef.1
 have hbu := hb
 simp only [bi, da, dQ, dP] at hbu
 refine sR ?_
 refine lQ ?_
 refine rA ?_ (x := lD [sl .v _, val _, val _, sl .v _, sl .v _, sl .v _, sl .v _, val _] bU)
 refine rA ?_ (x := cL [(true, [sl _ _, val _, val _, sl _ _, sl _ _, sl _ _, sl _ _, val _])] [(true, [sl .v _, val _, val _, sl .v _, sl .v _, sl .v _, sl .v _, val _])] WO (hs := by exact (aaf (by omega))))
 refine sq ?_
 refine sT [0, 2, 5000] [0] ?_
 refine lP ?_
 refine rA ?_ (x := eN)
 refine sc (fun hba => ?_) (fun hba => ?_)
 have hled : ij e (parts e).length = e.acG ++ [gK e (parts e).length] := by unfold ij; rw [if_neg (by omega)]
 refine sP [0, 2, 5000] [0] ?_
 refine jq ?_
 refine wA ?_ (x := cM Cp.ptr)
 refine wA ?_ (x := tM)
 refine wO [(0, _), (14, _), (15, _), (5000, _)] [(0, _)] ?_
 refine tH (bx := 0) (L := dD) (qs := [(false, [sl _ _])]) (as_ := [(false, [sl _ _])]) (by decide) WZ rfl (by exact rfl) (by exact rfl) (by exact ⟨rfl, ⟨⟩⟩) (by exact (aI (by exact tI) tI)) (by decide) (by exact (aI (aI rfl (aN.cons OTo.refl aN.nil)) tI)) (by exact (abP (e := e) rfl hoe (by omega))) (fun x hx => hx.elim) (by exact lq) (by exact (aI (.inl rfl) tI)) ?_
 refine dO ?_
 refine sT [0, 5000] [0] ?_
 refine lQ ?_
 refine rA ?_ (x := lF hY)
 refine lR ?_
 refine rS ?_
 refine sS [0, 3, 5000] [0] ?_
 refine ue ?_
 refine aP ?_
 refine sS [0, 3, 4, 5000] [0] ?_
 refine cH ?_
 refine sP [0, 3, 4, 5, 5000] [0] ?_
 refine bV (d := 0) (by exact rfl) (show _ = [sl bo (e.Store.act.map (aC aS aa)), val (vI e.Store.Now), val (vI e.acy), sl aa (e.Order.map ak), sl bS ((ca e (parts e).length).map (aQ aw aa aa az aa)), sl bJ (e.Done.map (aX aw aa az aa)), sl bP ((ij e (parts e).length).map (aZ aa aa aa)), val (vI e.Steps)] from by first | (rw [hled]; done) | (rw [hled]; exact rfl) | (rw [hled, hsv]; done) | (rw [hled, hsv]; exact rfl)) ?_
 refine sP [0, 3, 4, 5, 5000] [0] ?_
 refine rN (d := 0) (t := 108) (e := 10) (G := 6200) (A := [sl _ _, val _, val _, sl _ _]) (B := [sl _ _, sl _ _, val _]) (f := (aQ aw aa aa az aa)) (g := (fun z : acu => [val (vI z.acv.Id), val (vI z.acv.acz), sl .v (z.acv.acw.map bj), sl .v (z.acv.Out.map ak), val (vI z.Time), sl .v (z.acD.map ak), val (vI z.Age), val (vI z.Sent), val (vI z.Cap), sl .v (z.Rows.map (bC aa))])) (fN := eS) (xs := (ca e (parts e).length)) (by exact rfl) (by exact rfl) (fun _ _ => rfl) (fun _ => rfl) (fun _ => (ap (ap (aH (aH (ap (aH (ap (ap (ap (aH am.nil))))))))))) (fun _ => (by exact lq)) fun za hza => ?_
 have hzal : za.length = e.acu.length := by rw [← aq (f := Prod.fst), hza, kv]
 refine sQ [0, 3, 4, 5, 5000, 6200] [0] ?_
 refine sL [0, 3, 5000] [] (fun m : Nat => m ≤ e.acu.length) (fun m : Nat => [(4, RV.slc bS ((ku e (parts e).length m).map (aQ aw aa aa az aa))), (5, RV.int (m : Int)), (6200, RV.gh (bl 10 (za.drop m)) (bK (aQ aw aa aa az aa) (za.drop m)))]) (fun m : Nat => [(0, (32, [sl bo (e.Store.act.map (aC aS aa)), val (vI e.Store.Now), val (vI e.acy), sl aa (e.Order.map ak), sl .v (za.map eS), sl bJ ((e.Done ++ gA e (parts e).length m).map (aX aw aa az aa)), sl bP ((ij e (parts e).length).map (aZ aa aa aa)), val (vI e.Steps)]))]) (fun m : Nat => e.acu.length - m) 0 (by omega) (by exact aI (by exact rfl) (aI (by exact rfl) (aI (by exact rfl) tI))) (by exact aI (by show _ = some (32, [sl bo (e.Store.act.map (aC aS aa)), val (vI e.Store.Now), val (vI e.acy), sl aa (e.Order.map ak), sl .v (za.map eS), sl bJ ((e.Done ++ gA e (parts e).length 0).map (aX aw aa az aa)), sl bP ((ij e (parts e).length).map (aZ aa aa aa)), val (vI e.Steps)]); rw [show gA e (parts e).length 0 = [] from rfl, eg]; exact rfl) tI) ?_
 rintro m hm
 have hrl2 := yE (e := e) (k := (parts e).length) (m := m)
 have hdl2 := yF (e := e) (k := (parts e).length) (m := m)
 refine eH ?_
 refine lQ ?_
 refine qQ ?_
 refine sc (fun hbb => ?_) (fun hbb => ?_)
 have hltm : m < e.acu.length := by omega
 have hltz : m < za.length := by omega
 have hm2 : m < (ca e (parts e).length).length := by rw [kv]; exact hltm
 have hm1 : m < (cY e (parts e).length).length := by rw [vc]; exact hltm
 have hz3 : za[m].1 = (ca e (parts e).length)[m] := by simp [← hza]
 have hab := yH hoe hltm hm2
 rw [← hz3] at hab
 refine bB ?_
 refine sT [0, 3, 4, 5, 5000, 6200] [0] ?_
 refine lQ ?_
 refine jV ?_
 refine rM ?_
 refine wq ?_
 refine ww ?_
 refine sO [(0, _), (3, _), (4, _), (5, _), (6, _), (5000, _), (6200, _)] [(0, _), (6, (108, [nv _ (val _), nv _ (val _), nv _ (sl _ _), nv _ (sl _ _), nv _ (val _), nv _ (sl _ _), nv _ (val _), nv _ (val _), nv _ (val _), nv _ (sl _ _)]))] ?_
 refine JD ?_
 refine wF ?_
 refine rA ?_ (x := lF mf)
 refine mO ?_
 refine xy ?_
 refine aP ?_
 refine wF ?_
 refine ut ?_
 refine rM ?_
 refine Bq ?_
 refine sc (fun hbc => ?_) (fun hbc => ?_)
 have hga : (cY e (parts e).length)[m] = (⟨za[m].1.acv, za[m].1.Time, za[m].1.acD, za[m].1.Age + 1, 0, za[m].1.Cap, za[m].1.Rows⟩ : acu) := by rw [tk hm1 hm2, ← hz3]; exact Dx hbc
 refine sG [0, 3, 4, 5, 6, 5000, 6200] [0, 6] ?_
 refine Bj ?_
 refine aP ?_
 refine wF ?_
 exact IL
 have hga : (cY e (parts e).length)[m] = (⟨za[m].1.acv, za[m].1.Time, za[m].1.acD, za[m].1.Age + 1, za[m].1.Sent, za[m].1.Cap, za[m].1.Rows⟩ : acu) := by rw [tk hm1 hm2, ← hz3]; exact Dy hbc
 refine bm ?_
 refine sS [0, 3, 4, 5, 6, 5000, 6200] [0, 6] ?_
 exact IL
 have hend2 : m = e.acu.length := by omega
 subst hend2
 refine bG ?_
 refine sT [0, 3, 4, 5, 5000, 6200] [0] ?_
 refine rA ?_ (x := cM Cp.ptr)
 refine rA ?_ (x := tM)
 refine rA ?_ (x := iT (by decide))
 refine qw ?_
 refine sT [0, 3, 5, 5000, 6200] [0] ?_
 refine xH ?_
 refine qK ?_
 refine df ?_
 refine Mg ?_
 refine LR ?_
 refine sT [0, 3, 5, 5000, 6200] [0] ?_
 refine xH ?_
 refine rA ?_ (x := lF kh)
 refine mO ?_
 refine rA ?_ (x := iT (by decide))
 refine LS ?_
 refine sQ [0, 3, 5, 5000] [0] ?_
 refine jq ?_
 refine wA ?_ (x := cM Cp.ptr)
 refine wO [(0, _), (3, _), (5, _), (98, _), (5000, _)] [(0, _)] ?_
 exact IM
 have hled : ij e (parts e).length = e.acG := by unfold ij; rw [if_pos (by omega)]
 have hsv : (ca e (parts e).length) = e.acu := by rw [show (parts e).length = 0 by omega]; exact Ds
 refine bm ?_
 refine sS [0, 2, 5000] [0] ?_
 refine lQ ?_
 refine rA ?_ (x := lF hY)
 refine lR ?_
 refine rS ?_
 refine sS [0, 2, 3, 5000] [0] ?_
 refine ue ?_
 refine aP ?_
 refine sS [0, 2, 3, 4, 5000] [0] ?_
 refine cH ?_
 refine sP [0, 2, 3, 4, 5, 5000] [0] ?_
 refine bV (d := 0) (by exact rfl) (show _ = [sl bo (e.Store.act.map (aC aS aa)), val (vI e.Store.Now), val (vI e.acy), sl aa (e.Order.map ak), sl bS ((ca e (parts e).length).map (aQ aw aa aa az aa)), sl bJ (e.Done.map (aX aw aa az aa)), sl bP ((ij e (parts e).length).map (aZ aa aa aa)), val (vI e.Steps)] from by first | (rw [hled]; done) | (rw [hled]; exact rfl) | (rw [hled, hsv]; done) | (rw [hled, hsv]; exact rfl)) ?_
 refine sP [0, 2, 3, 4, 5, 5000] [0] ?_
 refine rN (d := 0) (t := 108) (e := 10) (G := 6200) (A := [sl _ _, val _, val _, sl _ _]) (B := [sl _ _, sl _ _, val _]) (f := (aQ aw aa aa az aa)) (g := (fun z : acu => [val (vI z.acv.Id), val (vI z.acv.acz), sl .v (z.acv.acw.map bj), sl .v (z.acv.Out.map ak), val (vI z.Time), sl .v (z.acD.map ak), val (vI z.Age), val (vI z.Sent), val (vI z.Cap), sl .v (z.Rows.map (bC aa))])) (fN := eS) (xs := (ca e (parts e).length)) (by exact rfl) (by exact rfl) (fun _ _ => rfl) (fun _ => rfl) (fun _ => (ap (ap (aH (aH (ap (aH (ap (ap (ap (aH am.nil))))))))))) (fun _ => (by exact lq)) fun za hza => ?_
 have hzal : za.length = e.acu.length := by rw [← aq (f := Prod.fst), hza, kv]
 refine sQ [0, 2, 3, 4, 5, 5000, 6200] [0] ?_
 refine sL [0, 2, 3, 5000] [] (fun m : Nat => m ≤ e.acu.length) (fun m : Nat => [(4, RV.slc bS ((ku e (parts e).length m).map (aQ aw aa aa az aa))), (5, RV.int (m : Int)), (6200, RV.gh (bl 10 (za.drop m)) (bK (aQ aw aa aa az aa) (za.drop m)))]) (fun m : Nat => [(0, (32, [sl bo (e.Store.act.map (aC aS aa)), val (vI e.Store.Now), val (vI e.acy), sl aa (e.Order.map ak), sl .v (za.map eS), sl bJ ((e.Done ++ gA e (parts e).length m).map (aX aw aa az aa)), sl bP ((ij e (parts e).length).map (aZ aa aa aa)), val (vI e.Steps)]))]) (fun m : Nat => e.acu.length - m) 0 (by omega) (by exact aI (by exact rfl) (aI (by exact rfl) (aI (by exact rfl) tI))) (by exact aI (by show _ = some (32, [sl bo (e.Store.act.map (aC aS aa)), val (vI e.Store.Now), val (vI e.acy), sl aa (e.Order.map ak), sl .v (za.map eS), sl bJ ((e.Done ++ gA e (parts e).length 0).map (aX aw aa az aa)), sl bP ((ij e (parts e).length).map (aZ aa aa aa)), val (vI e.Steps)]); rw [show gA e (parts e).length 0 = [] from rfl, eg]; exact rfl) tI) ?_
 rintro m hm
 have hrl2 := yE (e := e) (k := (parts e).length) (m := m)
 have hdl2 := yF (e := e) (k := (parts e).length) (m := m)
 refine eH ?_
 refine lQ ?_
 refine qQ ?_
 refine sc (fun hbb => ?_) (fun hbb => ?_)
 have hltm : m < e.acu.length := by omega
 have hltz : m < za.length := by omega
 have hm2 : m < (ca e (parts e).length).length := by rw [kv]; exact hltm
 have hm1 : m < (cY e (parts e).length).length := by rw [vc]; exact hltm
 have hz3 : za[m].1 = (ca e (parts e).length)[m] := by simp [← hza]
 have hab := yH hoe hltm hm2
 rw [← hz3] at hab
 refine bB ?_
 refine sT [0, 2, 3, 4, 5, 5000, 6200] [0] ?_
 refine lQ ?_
 refine jV ?_
 refine rM ?_
 refine wq ?_
 refine ww ?_
 refine sO [(0, _), (2, _), (3, _), (4, _), (5, _), (6, _), (5000, _), (6200, _)] [(0, _), (6, (108, [nv _ (val _), nv _ (val _), nv _ (sl _ _), nv _ (sl _ _), nv _ (val _), nv _ (sl _ _), nv _ (val _), nv _ (val _), nv _ (val _), nv _ (sl _ _)]))] ?_
 refine JD ?_
 refine wD ?_
 refine rA ?_ (x := lF mf)
 refine mO ?_
 refine xy ?_
 refine aP ?_
 refine wD ?_
 refine ut ?_
 refine rM ?_
 refine Bq ?_
 refine sc (fun hbc => ?_) (fun hbc => ?_)
 have hga : (cY e (parts e).length)[m] = (⟨za[m].1.acv, za[m].1.Time, za[m].1.acD, za[m].1.Age + 1, 0, za[m].1.Cap, za[m].1.Rows⟩ : acu) := by rw [tk hm1 hm2, ← hz3]; exact Dx hbc
 refine sG [0, 2, 3, 4, 5, 6, 5000, 6200] [0, 6] ?_
 refine Bj ?_
 refine aP ?_
 refine wD ?_
 exact IN
 have hga : (cY e (parts e).length)[m] = (⟨za[m].1.acv, za[m].1.Time, za[m].1.acD, za[m].1.Age + 1, za[m].1.Sent, za[m].1.Cap, za[m].1.Rows⟩ : acu) := by rw [tk hm1 hm2, ← hz3]; exact Dy hbc
 refine bm ?_
 refine sS [0, 2, 3, 4, 5, 6, 5000, 6200] [0, 6] ?_
 exact IN
 have hend2 : m = e.acu.length := by omega
 subst hend2
 refine bG ?_
 refine sT [0, 2, 3, 4, 5, 5000, 6200] [0] ?_
 refine rA ?_ (x := cM Cp.ptr)
 refine rA ?_ (x := tM)
 refine rA ?_ (x := iT (by decide))
 refine qw ?_
 refine sT [0, 2, 3, 5, 5000, 6200] [0] ?_
 refine xH ?_
 refine qK ?_
 refine df ?_
 refine Mg ?_
 refine LR ?_
 refine sT [0, 2, 3, 5, 5000, 6200] [0] ?_
 refine xH ?_
 refine rA ?_ (x := lF kh)
 refine mO ?_
 refine rA ?_ (x := iT (by decide))
 refine LS ?_
 refine sQ [0, 2, 3, 5, 5000] [0] ?_
 refine jq ?_
 refine wA ?_ (x := cM Cp.ptr)
 refine wO [(0, _), (2, _), (3, _), (5, _), (98, _), (5000, _)] [(0, _)] ?_
 exact IM
def abS {p1 p2 p5 p6 p7 p8 p9 p11 p12 p13 p14 p16 p17 p18 : Fl} {e : aD}  (hb : bi e ≤ 68719000000) : aB prog 61 [(true, [sl .v (e.Store.act.map (aC p1 p2)), val (vI e.Store.Now), val (vI e.acy), sl .v (e.Order.map ak), sl .v (e.acu.map (aQ p5 p6 p7 p8 p9)), sl .v (e.Done.map (aX p11 p12 p13 p14)), sl .v (e.acG.map (aZ p16 p17 p18)), val (vI e.Steps)])] (aA [(true, [sl bo ((dn e).Store.act.map (aC aS aa)), val (vI (dn e).Store.Now), val (vI (dn e).acy), sl aa ((dn e).Order.map ak), sl bS ((dn e).acu.map (aQ aw aa aa az aa)), sl bJ ((dn e).Done.map (aX aw aa az aa)), sl bP ((dn e).acG.map (aZ aa aa aa)), val (vI (dn e).Steps)]), (false, [val (.bool (je e))])]) := by
 refine kU (largs := fun L => [(true, [sl (.lo L) (e.Store.act.map (aC (.lo L) (.lo L))), val (vI e.Store.Now), val (vI e.acy), sl (.lo L) (e.Order.map ak), sl (.lo L) (e.acu.map (aQ (.lo L) (.lo L) (.lo L) (.lo L) (.lo L))), sl (.lo L) (e.Done.map (aX (.lo L) (.lo L) (.lo L) (.lo L))), sl (.lo L) (e.acG.map (aZ (.lo L) (.lo L) (.lo L))), val (vI e.Steps)])]) (rs := [(true, [sl bo ((dn e).Store.act.map (aC aS aa)), val (vI (dn e).Store.Now), val (vI (dn e).acy), sl aa ((dn e).Order.map ak), sl bS ((dn e).acu.map (aQ aw aa aa az aa)), sl bJ ((dn e).Done.map (aX aw aa az aa)), sl bP ((dn e).acG.map (aZ aa aa aa)), val (vI (dn e).Steps)]), (false, [val (.bool (je e))])]) func61 rfl (nl rfl) (fun L => by exact (aI (aI rfl (ab.cons (aM (fun _ => nl rfl) (fun _ => (ab.cons (aM (fun _ => nl rfl) (fun _ => (ab.cons ao (ab.cons (aM (fun _ => nl rfl) (fun _ => (ab.cons ao ab.nil))) (ab.cons ao (ab.cons ao ab.nil)))))) ab.nil))) (ab.cons ao (ab.cons ao (ab.cons (aM (fun _ => nl rfl) (fun _ => (ab.cons ao ab.nil))) (ab.cons (aM (fun _ => nl rfl) (fun _ => (ab.cons ao (ab.cons ao (ab.cons (aM (fun _ => nl rfl) (fun _ => (ab.cons ao (ab.cons ao (ab.cons ao ab.nil))))) (ab.cons (aM (fun _ => nl rfl) (fun _ => (ab.cons ao ab.nil))) (ab.cons ao (ab.cons (aM (fun _ => nl rfl) (fun _ => (ab.cons ao ab.nil))) (ab.cons ao (ab.cons ao (ab.cons ao (ab.cons (aM (fun _ => nl rfl) (fun _ => (ab.cons ao (ab.cons (aM (fun _ => nl rfl) (fun _ => (ab.cons ao ab.nil))) ab.nil)))) ab.nil)))))))))))) (ab.cons (aM (fun _ => nl rfl) (fun _ => (ab.cons ao (ab.cons ao (ab.cons (aM (fun _ => nl rfl) (fun _ => (ab.cons ao (ab.cons ao (ab.cons ao ab.nil))))) (ab.cons (aM (fun _ => nl rfl) (fun _ => (ab.cons ao ab.nil))) (ab.cons ao (ab.cons ao (ab.cons (aM (fun _ => nl rfl) (fun _ => (ab.cons ao (ab.cons (aM (fun _ => nl rfl) (fun _ => (ab.cons ao ab.nil))) ab.nil)))) ab.nil))))))))) (ab.cons (aM (fun _ => nl rfl) (fun _ => (ab.cons ao (ab.cons ao (ab.cons (aM (fun _ => nl rfl) (fun _ => (ab.cons ao ab.nil))) (ab.cons (aM (fun _ => nl rfl) (fun _ => (ab.cons ao ab.nil))) (ab.cons (aM (fun _ => nl rfl) (fun _ => (ab.cons ao ab.nil))) ab.nil))))))) (ab.cons ao ab.nil))))))))) tI)) (fun L => by exact lq) ?_
 intro w0 Fz0
 refine sn 0 0 fun hl0_0 => ?_
 refine sn 0 3 fun hl0_3 => ?_
 refine sn 0 4 fun hl0_4 => ?_
 refine sn 0 5 fun hl0_5 => ?_
 refine sn 0 6 fun hl0_6 => ?_
 have hbu := hb
 simp only [bi, da, dQ, dP] at hbu
 refine sa ?_
 refine Kk ?_
 refine AG ?_
 refine jU ?_
 refine LG ?_
 refine ob ?_
 refine JU ?_
 refine cx 10 (fun ga sga => ?_) (fun ga sga => ?_)
 refine kG ?_
 refine ar.cases (s := 15) rfl (fun g2 => ?_) (fun g2 => nomatch g2)
 refine pM ?_
 refine ar.cases (s := 21) rfl (fun g3 => ?_) (fun g3 => nomatch g3)
 exact IB
 refine rB ga ?_ (x := lF kh)
 refine rB ga ?_ (x := lD [val _] au)
 refine rB ga ?_ (x := iD)
 refine ou ?_
 refine cx 15 (fun gb sgb => ?_) (fun gb sgb => ?_)
 refine ox ?_
 refine ar.cases (s := 21) rfl (fun g6 => ?_) (fun g6 => nomatch g6)
 exact IC
 refine rB gb ?_ (x := lF kg)
 refine rB gb ?_ (x := lD [sl (.lo _) _] kp)
 refine rB gb ?_ (x := lN eB)
 refine rB gb ?_ (x := iD)
 refine qy ?_
 refine cx 21 (fun gc sgc => ?_) (fun gc sgc => ?_)
 exact ID
 refine rB gc ?_ (x := lF lh)
 refine rB gc ?_ (x := lD [sl (.lo _) _] lm)
 refine rB gc ?_ (x := lN fb)
 refine rB gc ?_ (x := lF el)
 refine rB gc ?_ (x := lD [sl (.lo _) _] ea)
 refine rB gc ?_ (x := lN bL)
 refine rB gc ?_ (x := kV)
 refine rB gc ?_ (x := eN)
 refine rA ?_ (x := aK gc)
 refine sc (fun hba => ?_) (fun hba => ?_)
 exact tS
 have hok : je e = true := by
  have ho_ : bk e = true := by simp_all
  have hef_ := ie ho_
  unfold je
  rw [ho_]
  simp only [Bool.true_and, bq, decide_eq_true_eq]
  exact ⟨by omega, by omega, by omega⟩
 obtain ⟨hoe, hst, hld, hda⟩ := yA hok
 refine dt ?_
 refine sP [1, 2, 3, 4] [1, 2, 4] ?_
 refine jq ?_
 refine wO [(1, _), (2, _), (3, _), (4, _)] [(1, _), (2, _), (4, _)] ?_
 refine tH (bx := 4) (L := (Lw w0.heap.size)) (qs := []) (as_ := []) (by decide) WJ rfl (by exact rfl) (by exact rfl) (by exact tI) (by exact tI) (by decide) (by exact tI) (by exact (abR (by assumption) (by omega) (by omega) (by omega) (by omega))) (fun x hx => hx) (by exact lq) (by exact lq) ?_
 refine dO ?_
 refine aP ?_
 refine sO [(1, _), (2, _), (3, _), (4, _)] [(1, _), (2, _), (4, (32, [sl _ _, val _, val _, sl _ _, sl _ _, sl _ _, sl _ _, val _]))] ?_
 refine pH ?_
 refine rK ?_
 exact IJ
end Go.Proofs.YtmekkgdboplbjaaGreat
