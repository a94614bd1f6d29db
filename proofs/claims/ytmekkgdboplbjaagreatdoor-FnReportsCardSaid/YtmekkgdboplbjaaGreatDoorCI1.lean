/- What functions of the program compute. No condition. -/
import Derived.Test.YtmekkgdboplbjaaGreatDoorCH1
set_option linter.all false
namespace Go.Proofs.YtmekkgdboplbjaaGreatDoor
open Go Go.RowKit M PV Tryz
set_option maxRecDepth 10000
attribute [local irreducible] PV.Lcl PV.LclR RV.Lcl
set_option maxHeartbeats 8000000
def XM : dL prog 56 = some [(0, 4), (4, 1), (5, 1), (6, 1)] := by kernel_rfl
def XN {e : ay}  (hoe : aT e = true) (hst : e.Steps < 100000) (hld : (e.ZR.length : Int) < 1000) (hda : (e.Done.length : Int) + (e.ZF.length : Int) ≤ 1000) (hb : bB e ≤ 68719000000) : fa prog 274 46 [sl bQ (e.Store.ZE.map (aO be ae)), val (vI e.Store.Now), val (vI e.ZJ), sl ae (e.Order.map an), sl dr (e.ZF.map (bq aP ae ae aR ae)), sl cQ (e.Done.map (bN aP ae aR ae)), sl cH (e.ZR.map (bF ae ae ae)), val (vI e.Steps)] [sl bQ ((fA (gr e)).Store.ZE.map (aO be ae)), val (vI (fA (gr e)).Store.Now), val (vI (fA (gr e)).ZJ), sl ae ((fA (gr e)).Order.map an), sl dr ((fA (gr e)).ZF.map (bq aP ae ae aR ae)), sl cQ ((fA (gr e)).Done.map (bN aP ae aR ae)), sl cH ((fA (gr e)).ZR.map (bF ae ae ae)), val (vI (fA (gr e)).Steps)] [] (aF []) := by
 refine fO (rs := []) func274 rfl (nl rfl) (nl rfl) ?_
 intro g_ h0 w0 Fz0
 have hef := gU hoe
 have hcl : e.ZJ.toNat < e.Store.ZE.length := hef.2.2.2.1
 have hpl := wZ (e := e)
 have hswt := Me hoe
 obtain ⟨hs8, hs1, _, _, _, _⟩ := jd hef.1
 have hbu := hb
 simp only [bB, ix, mC, hZ] at hbu
 refine sR ?_
 refine la ?_
 refine rA ?_ (x := lD [sl .v _, val _, val _, sl .v _, sl .v _, sl .v _, sl .v _, val _] co)
 refine rA ?_ (x := cL [(true, [sl _ _, val _, val _, sl _ _, sl _ _, sl _ _, sl _ _, val _])] [(true, [sl .v _, val _, val _, sl .v _, sl .v _, sl .v _, sl .v _, val _])] Td (hs := by exact (XG (by omega))))
 refine jJ ?_
 refine sT [0, 2, 5000] [0] ?_
 refine jH ?_
 refine rA ?_ (x := dC)
 refine sc (fun hba => ?_) (fun hba => ?_)
 have hled : iR e (parts e).length = e.ZR ++ [fW e (parts e).length] := by unfold iR; rw [if_neg (by omega)]
 refine sP [0, 2, 5000] [0] ?_
 refine qM ?_
 refine wA ?_ (x := cM Cp.ptr)
 refine wA ?_ (x := tM)
 refine wO [(0, _), (14, _), (15, _), (5000, _)] [(0, _)] ?_
 refine sI (bx := 0) (L := xT) (qs := [(false, [sl _ _])]) (as_ := [(false, [sl _ _])]) (by decide) Te rfl (by exact rfl) (by exact rfl) (by exact ⟨rfl, ⟨⟩⟩) (by exact (aI (by exact tI) tI)) (by decide) (by exact (aI (aI rfl (fw.cons OTo.refl fw.nil)) tI)) (by exact (XL (e := e) rfl hoe (by omega))) (fun x hx => hx.elim) (by exact lq) (by exact (aI (.inl rfl) tI)) ?_
 refine sw ?_
 refine sT [0, 5000] [0] ?_
 refine la ?_
 refine rA ?_ (x := lF fB)
 refine oG ?_
 refine rS ?_
 refine sS [0, 3, 5000] [0] ?_
 refine Jj ?_
 refine sS [0, 3, 4, 5000] [0] ?_
 refine de ?_
 refine sP [0, 3, 4, 5, 5000] [0] ?_
 refine cK (d := 0) (by exact rfl) (show _ = [sl bQ (e.Store.ZE.map (aO be ae)), val (vI e.Store.Now), val (vI e.ZJ), sl ae (e.Order.map an), sl dr ((ck e (parts e).length).map (bq aP ae ae aR ae)), sl cQ (e.Done.map (bN aP ae aR ae)), sl cH ((iR e (parts e).length).map (bF ae ae ae)), val (vI e.Steps)] from by first | (rw [hled]; done) | (rw [hled]; exact rfl) | (rw [hled, hsv]; done) | (rw [hled, hsv]; exact rfl)) ?_
 refine sP [0, 3, 4, 5, 5000] [0] ?_
 refine yF (d := 0) (t := 102) (e := 10) (G := 6200) (A := [sl _ _, val _, val _, sl _ _]) (B := [sl _ _, sl _ _, val _]) (f := (bq aP ae ae aR ae)) (g := (fun z : ZF => [val (vI z.ZG.Id), val (vI z.ZG.ZK), sl .v (z.ZG.ZH.map dj), sl .v (z.ZG.Out.map an), val (vI z.Time), sl .v (z.ZO.map an), val (vI z.Age), val (vI z.Sent), val (vI z.Cap), sl .v (z.Rows.map (dt ae))])) (fN := jr) (xs := (ck e (parts e).length)) (by exact rfl) (by exact rfl) (fun _ _ => rfl) (fun _ => rfl) (fun _ => (aq (aq (aA (aA (aq (aA (aq (aq (aq (aA ao.nil))))))))))) (fun _ => (by exact lq)) fun za hza => ?_
 have hzal : za.length = e.ZF.length := by rw [← am (f := Prod.fst), hza, om]
 refine sQ [0, 3, 4, 5, 5000, 6200] [0] ?_
 refine sL [0, 3, 5000] [] (fun m : Nat => m ≤ e.ZF.length) (fun m : Nat => [(4, RV.slc dr ((kc e (parts e).length m).map (bq aP ae ae aR ae))), (5, RV.int (m : Int)), (6200, RV.gh (bS 10 (za.drop m)) (bT (bq aP ae ae aR ae) (za.drop m)))]) (fun m : Nat => [(0, (46, [sl bQ (e.Store.ZE.map (aO be ae)), val (vI e.Store.Now), val (vI e.ZJ), sl ae (e.Order.map an), sl .v (za.map jr), sl cQ ((e.Done ++ gq e (parts e).length m).map (bN aP ae aR ae)), sl cH ((iR e (parts e).length).map (bF ae ae ae)), val (vI e.Steps)]))]) (fun m : Nat => e.ZF.length - m) 0 (by omega) (by exact aI (by exact rfl) (aI (by exact rfl) (aI (by exact rfl) tI))) (by exact aI (by show _ = some (46, [sl bQ (e.Store.ZE.map (aO be ae)), val (vI e.Store.Now), val (vI e.ZJ), sl ae (e.Order.map an), sl .v (za.map jr), sl cQ ((e.Done ++ gq e (parts e).length 0).map (bN aP ae aR ae)), sl cH ((iR e (parts e).length).map (bF ae ae ae)), val (vI e.Steps)]); rw [show gq e (parts e).length 0 = [] from rfl, eH]; exact rfl) tI) ?_
 rintro m hm
 have hrl2 := LS (e := e) (k := (parts e).length) (m := m)
 have hdl2 := LU (e := e) (k := (parts e).length) (m := m)
 refine cI ?_
 refine la ?_
 refine oL ?_
 refine sc (fun hbb => ?_) (fun hbb => ?_)
 have hltm : m < e.ZF.length := by omega
 have hltz : m < za.length := by omega
 have hm2 : m < (ck e (parts e).length).length := by rw [om]; exact hltm
 have hm1 : m < (cY e (parts e).length).length := by rw [xx]; exact hltm
 have hz3 : za[m].1 = (ck e (parts e).length)[m] := by simp [← hza]
 have hab := Mf hoe hltm hm2
 rw [← hz3] at hab
 refine bw ?_
 refine sT [0, 3, 4, 5, 5000, 6200] [0] ?_
 refine la ?_
 refine qc ?_
 refine HZ ?_
 refine sO [(0, _), (3, _), (4, _), (5, _), (6, _), (5000, _), (6200, _)] [(0, _), (6, (102, [nv _ (val _), nv _ (val _), nv _ (sl _ _), nv _ (sl _ _), nv _ (val _), nv _ (sl _ _), nv _ (val _), nv _ (val _), nv _ (val _), nv _ (sl _ _)]))] ?_
 refine HL ?_
 refine vL ?_
 refine rA ?_ (x := lF ph)
 refine ti ?_
 refine Jo ?_
 refine dO ?_
 refine vL ?_
 refine rA ?_ (x := lF ph)
 refine rA ?_ (x := lD [val _] aw)
 refine th ?_
 refine rA ?_ (x := fb)
 refine sc (fun hbc => ?_) (fun hbc => ?_)
 have hga : (cY e (parts e).length)[m] = (⟨za[m].1.ZG, za[m].1.Time, za[m].1.ZO, za[m].1.Age + 1, 0, za[m].1.Cap, za[m].1.Rows⟩ : ZF) := by rw [xy hm1 hm2, ← hz3]; exact LV hbc
 refine sG [0, 3, 4, 5, 6, 5000, 6200] [0, 6] ?_
 refine Jt ?_
 refine ba ?_
 refine vL ?_
 exact GJ
 have hga : (cY e (parts e).length)[m] = (⟨za[m].1.ZG, za[m].1.Time, za[m].1.ZO, za[m].1.Age + 1, za[m].1.Sent, za[m].1.Cap, za[m].1.Rows⟩ : ZF) := by rw [xy hm1 hm2, ← hz3]; exact LW hbc
 refine bc ?_
 refine sS [0, 3, 4, 5, 6, 5000, 6200] [0, 6] ?_
 exact GJ
 have hend2 : m = e.ZF.length := by omega
 subst hend2
 refine bE ?_
 refine sT [0, 3, 4, 5, 5000, 6200] [0] ?_
 refine rA ?_ (x := cM Cp.ptr)
 refine rA ?_ (x := tM)
 refine rA ?_ (x := hP (by decide))
 refine qX ?_
 refine sT [0, 3, 5, 5000, 6200] [0] ?_
 refine tx ?_
 refine rA ?_ (x := lF kN)
 refine rA ?_ (x := lD [val _] aw)
 refine fc ?_
 refine Jv ?_
 refine Jp ?_
 refine sT [0, 3, 5, 5000, 6200] [0] ?_
 refine tx ?_
 refine rA ?_ (x := lF mN)
 refine Ao ?_
 refine Jq ?_
 refine sQ [0, 3, 5, 5000] [0] ?_
 refine qM ?_
 refine wA ?_ (x := cM Cp.ptr)
 refine wO [(0, _), (3, _), (5, _), (98, _), (5000, _)] [(0, _)] ?_
 exact GK
 have hled : iR e (parts e).length = e.ZR := by unfold iR; rw [if_pos (by omega)]
 have hsv : (ck e (parts e).length) = e.ZF := by rw [show (parts e).length = 0 by omega]; exact LP
 refine bc ?_
 refine sS [0, 2, 5000] [0] ?_
 refine la ?_
 refine rA ?_ (x := lF fB)
 refine oG ?_
 refine rS ?_
 refine sS [0, 2, 3, 5000] [0] ?_
 refine Jj ?_
 refine sS [0, 2, 3, 4, 5000] [0] ?_
 refine de ?_
 refine sP [0, 2, 3, 4, 5, 5000] [0] ?_
 refine cK (d := 0) (by exact rfl) (show _ = [sl bQ (e.Store.ZE.map (aO be ae)), val (vI e.Store.Now), val (vI e.ZJ), sl ae (e.Order.map an), sl dr ((ck e (parts e).length).map (bq aP ae ae aR ae)), sl cQ (e.Done.map (bN aP ae aR ae)), sl cH ((iR e (parts e).length).map (bF ae ae ae)), val (vI e.Steps)] from by first | (rw [hled]; done) | (rw [hled]; exact rfl) | (rw [hled, hsv]; done) | (rw [hled, hsv]; exact rfl)) ?_
 refine sP [0, 2, 3, 4, 5, 5000] [0] ?_
 refine yF (d := 0) (t := 102) (e := 10) (G := 6200) (A := [sl _ _, val _, val _, sl _ _]) (B := [sl _ _, sl _ _, val _]) (f := (bq aP ae ae aR ae)) (g := (fun z : ZF => [val (vI z.ZG.Id), val (vI z.ZG.ZK), sl .v (z.ZG.ZH.map dj), sl .v (z.ZG.Out.map an), val (vI z.Time), sl .v (z.ZO.map an), val (vI z.Age), val (vI z.Sent), val (vI z.Cap), sl .v (z.Rows.map (dt ae))])) (fN := jr) (xs := (ck e (parts e).length)) (by exact rfl) (by exact rfl) (fun _ _ => rfl) (fun _ => rfl) (fun _ => (aq (aq (aA (aA (aq (aA (aq (aq (aq (aA ao.nil))))))))))) (fun _ => (by exact lq)) fun za hza => ?_
 have hzal : za.length = e.ZF.length := by rw [← am (f := Prod.fst), hza, om]
 refine sQ [0, 2, 3, 4, 5, 5000, 6200] [0] ?_
 refine sL [0, 2, 3, 5000] [] (fun m : Nat => m ≤ e.ZF.length) (fun m : Nat => [(4, RV.slc dr ((kc e (parts e).length m).map (bq aP ae ae aR ae))), (5, RV.int (m : Int)), (6200, RV.gh (bS 10 (za.drop m)) (bT (bq aP ae ae aR ae) (za.drop m)))]) (fun m : Nat => [(0, (46, [sl bQ (e.Store.ZE.map (aO be ae)), val (vI e.Store.Now), val (vI e.ZJ), sl ae (e.Order.map an), sl .v (za.map jr), sl cQ ((e.Done ++ gq e (parts e).length m).map (bN aP ae aR ae)), sl cH ((iR e (parts e).length).map (bF ae ae ae)), val (vI e.Steps)]))]) (fun m : Nat => e.ZF.length - m) 0 (by omega) (by exact aI (by exact rfl) (aI (by exact rfl) (aI (by exact rfl) tI))) (by exact aI (by show _ = some (46, [sl bQ (e.Store.ZE.map (aO be ae)), val (vI e.Store.Now), val (vI e.ZJ), sl ae (e.Order.map an), sl .v (za.map jr), sl cQ ((e.Done ++ gq e (parts e).length 0).map (bN aP ae aR ae)), sl cH ((iR e (parts e).length).map (bF ae ae ae)), val (vI e.Steps)]); rw [show gq e (parts e).length 0 = [] from rfl, eH]; exact rfl) tI) ?_
 rintro m hm
 have hrl2 := LS (e := e) (k := (parts e).length) (m := m)
 have hdl2 := LU (e := e) (k := (parts e).length) (m := m)
 refine cI ?_
 refine la ?_
 refine oL ?_
 refine sc (fun hbb => ?_) (fun hbb => ?_)
 have hltm : m < e.ZF.length := by omega
 have hltz : m < za.length := by omega
 have hm2 : m < (ck e (parts e).length).length := by rw [om]; exact hltm
 have hm1 : m < (cY e (parts e).length).length := by rw [xx]; exact hltm
 have hz3 : za[m].1 = (ck e (parts e).length)[m] := by simp [← hza]
 have hab := Mf hoe hltm hm2
 rw [← hz3] at hab
 refine bw ?_
 refine sT [0, 2, 3, 4, 5, 5000, 6200] [0] ?_
 refine la ?_
 refine qc ?_
 refine HZ ?_
 refine sO [(0, _), (2, _), (3, _), (4, _), (5, _), (6, _), (5000, _), (6200, _)] [(0, _), (6, (102, [nv _ (val _), nv _ (val _), nv _ (sl _ _), nv _ (sl _ _), nv _ (val _), nv _ (sl _ _), nv _ (val _), nv _ (val _), nv _ (val _), nv _ (sl _ _)]))] ?_
 refine HL ?_
 refine vG ?_
 refine rA ?_ (x := lF ph)
 refine ti ?_
 refine Jo ?_
 refine dO ?_
 refine vG ?_
 refine rA ?_ (x := lF ph)
 refine rA ?_ (x := lD [val _] aw)
 refine th ?_
 refine rA ?_ (x := fb)
 refine sc (fun hbc => ?_) (fun hbc => ?_)
 have hga : (cY e (parts e).length)[m] = (⟨za[m].1.ZG, za[m].1.Time, za[m].1.ZO, za[m].1.Age + 1, 0, za[m].1.Cap, za[m].1.Rows⟩ : ZF) := by rw [xy hm1 hm2, ← hz3]; exact LV hbc
 refine sG [0, 2, 3, 4, 5, 6, 5000, 6200] [0, 6] ?_
 refine Jt ?_
 refine ba ?_
 refine vG ?_
 exact GL
 have hga : (cY e (parts e).length)[m] = (⟨za[m].1.ZG, za[m].1.Time, za[m].1.ZO, za[m].1.Age + 1, za[m].1.Sent, za[m].1.Cap, za[m].1.Rows⟩ : ZF) := by rw [xy hm1 hm2, ← hz3]; exact LW hbc
 refine bc ?_
 refine sS [0, 2, 3, 4, 5, 6, 5000, 6200] [0, 6] ?_
 exact GL
 have hend2 : m = e.ZF.length := by omega
 subst hend2
 refine bE ?_
 refine sT [0, 2, 3, 4, 5, 5000, 6200] [0] ?_
 refine rA ?_ (x := cM Cp.ptr)
 refine rA ?_ (x := tM)
 refine rA ?_ (x := hP (by decide))
 refine qX ?_
 refine sT [0, 2, 3, 5, 5000, 6200] [0] ?_
 refine tx ?_
 refine rA ?_ (x := lF kN)
 refine rA ?_ (x := lD [val _] aw)
 refine fc ?_
 refine Jv ?_
 refine Jp ?_
 refine sT [0, 2, 3, 5, 5000, 6200] [0] ?_
 refine tx ?_
 refine rA ?_ (x := lF mN)
 refine Ao ?_
 refine Jq ?_
 refine sQ [0, 2, 3, 5, 5000] [0] ?_
 refine qM ?_
 refine wA ?_ (x := cM Cp.ptr)
 refine wO [(0, _), (2, _), (3, _), (5, _), (98, _), (5000, _)] [(0, _)] ?_
 exact GK
def XO {p1 p2 p5 p6 p7 p8 p9 p11 p12 p13 p14 p16 p17 p18 : Fl} {e : ay}  (hb : bB e ≤ 68719000000) : aN prog 225 [(true, [sl .v (e.Store.ZE.map (aO p1 p2)), val (vI e.Store.Now), val (vI e.ZJ), sl .v (e.Order.map an), sl .v (e.ZF.map (bq p5 p6 p7 p8 p9)), sl .v (e.Done.map (bN p11 p12 p13 p14)), sl .v (e.ZR.map (bF p16 p17 p18)), val (vI e.Steps)])] (aF [(true, [sl bQ ((fk e).Store.ZE.map (aO be ae)), val (vI (fk e).Store.Now), val (vI (fk e).ZJ), sl ae ((fk e).Order.map an), sl dr ((fk e).ZF.map (bq aP ae ae aR ae)), sl cQ ((fk e).Done.map (bN aP ae aR ae)), sl cH ((fk e).ZR.map (bF ae ae ae)), val (vI (fk e).Steps)]), (false, [val (.bool (jq e))])]) := by
 refine qN (largs := fun L => [(true, [sl (.lo L) (e.Store.ZE.map (aO (.lo L) (.lo L))), val (vI e.Store.Now), val (vI e.ZJ), sl (.lo L) (e.Order.map an), sl (.lo L) (e.ZF.map (bq (.lo L) (.lo L) (.lo L) (.lo L) (.lo L))), sl (.lo L) (e.Done.map (bN (.lo L) (.lo L) (.lo L) (.lo L))), sl (.lo L) (e.ZR.map (bF (.lo L) (.lo L) (.lo L))), val (vI e.Steps)])]) (rs := [(true, [sl bQ ((fk e).Store.ZE.map (aO be ae)), val (vI (fk e).Store.Now), val (vI (fk e).ZJ), sl ae ((fk e).Order.map an), sl dr ((fk e).ZF.map (bq aP ae ae aR ae)), sl cQ ((fk e).Done.map (bN aP ae aR ae)), sl cH ((fk e).ZR.map (bF ae ae ae)), val (vI (fk e).Steps)]), (false, [val (.bool (jq e))])]) func225 rfl (nl rfl) (fun L => by exact (aI (aI rfl (aj.cons (bn (fun _ => nl rfl) (fun _ => (aj.cons (bn (fun _ => nl rfl) (fun _ => (aj.cons aC (aj.cons (bn (fun _ => nl rfl) (fun _ => (aj.cons aC aj.nil))) (aj.cons aC (aj.cons aC aj.nil)))))) aj.nil))) (aj.cons aC (aj.cons aC (aj.cons (bn (fun _ => nl rfl) (fun _ => (aj.cons aC aj.nil))) (aj.cons (bn (fun _ => nl rfl) (fun _ => (aj.cons aC (aj.cons aC (aj.cons (bn (fun _ => nl rfl) (fun _ => (aj.cons aC (aj.cons aC (aj.cons aC aj.nil))))) (aj.cons (bn (fun _ => nl rfl) (fun _ => (aj.cons aC aj.nil))) (aj.cons aC (aj.cons (bn (fun _ => nl rfl) (fun _ => (aj.cons aC aj.nil))) (aj.cons aC (aj.cons aC (aj.cons aC (aj.cons (bn (fun _ => nl rfl) (fun _ => (aj.cons aC (aj.cons (bn (fun _ => nl rfl) (fun _ => (aj.cons aC aj.nil))) aj.nil)))) aj.nil)))))))))))) (aj.cons (bn (fun _ => nl rfl) (fun _ => (aj.cons aC (aj.cons aC (aj.cons (bn (fun _ => nl rfl) (fun _ => (aj.cons aC (aj.cons aC (aj.cons aC aj.nil))))) (aj.cons (bn (fun _ => nl rfl) (fun _ => (aj.cons aC aj.nil))) (aj.cons aC (aj.cons aC (aj.cons (bn (fun _ => nl rfl) (fun _ => (aj.cons aC (aj.cons (bn (fun _ => nl rfl) (fun _ => (aj.cons aC aj.nil))) aj.nil)))) aj.nil))))))))) (aj.cons (bn (fun _ => nl rfl) (fun _ => (aj.cons aC (aj.cons aC (aj.cons (bn (fun _ => nl rfl) (fun _ => (aj.cons aC aj.nil))) (aj.cons (bn (fun _ => nl rfl) (fun _ => (aj.cons aC aj.nil))) (aj.cons (bn (fun _ => nl rfl) (fun _ => (aj.cons aC aj.nil))) aj.nil))))))) (aj.cons aC aj.nil))))))))) tI)) (fun L => by exact lq) ?_
 intro w0 Fz0
 refine sn 0 0 fun hl0_0 => ?_
 refine sn 0 3 fun hl0_3 => ?_
 refine sn 0 4 fun hl0_4 => ?_
 refine sn 0 5 fun hl0_5 => ?_
 refine sn 0 6 fun hl0_6 => ?_
 have hbu := hb
 simp only [bB, ix, mC, hZ] at hbu
 refine zJ ?_
 refine wd ?_
 refine sO [(1, _), (2, _), (3, _)] [(1, (46, [sl (.lo _) _, val _, val _, sl (.lo _) _, sl (.lo _) _, sl (.lo _) _, sl (.lo _) _, val _])), (2, (46, [sl _ _, val _, val _, sl _ _, sl _ _, sl _ _, sl _ _, val _]))] ?_
 refine bi ?_
 refine zv ?_
 refine oE ?_
 refine dO ?_
 refine Jg ?_
 refine zu ?_
 refine gk ?_
 refine cx 10 (fun ga sga => ?_) (fun ga sga => ?_)
 refine lO ?_
 refine az.cases (s := 15) rfl (fun g2 => ?_) (fun g2 => nomatch g2)
 refine my ?_
 refine rM ?_
 refine az.cases (s := 21) rfl (fun g3 => ?_) (fun g3 => nomatch g3)
 refine pX ?_
 refine cO ?_
 exact vr
 refine rB ga ?_ (x := lF mN)
 refine rB ga ?_ (x := lD [val _] aw)
 refine rB ga ?_ (x := jD)
 refine lf ?_
 refine cx 15 (fun gb sgb => ?_) (fun gb sgb => ?_)
 refine qa ?_
 refine az.cases (s := 21) rfl (fun g6 => ?_) (fun g6 => nomatch g6)
 refine tD ?_
 refine cO ?_
 exact vr
 refine rB gb ?_ (x := lF ob)
 refine rB gb ?_ (x := lD [sl (.lo _) _] oe)
 refine rB gb ?_ (x := lN ij)
 refine rB gb ?_ (x := jD)
 refine rA ?_ (x := aH gb)
 refine rM ?_
 refine cx 21 (fun gc sgc => ?_) (fun gc sgc => ?_)
 refine ny ?_
 refine cO ?_
 exact vr
 refine rB gc ?_ (x := lF mM)
 refine rB gc ?_ (x := lD [sl (.lo _) _] mQ)
 refine rB gc ?_ (x := lN kO)
 refine rB gc ?_ (x := lF eQ)
 refine rB gc ?_ (x := lD [sl (.lo _) _] eG)
 refine rB gc ?_ (x := lN ct)
 refine rB gc ?_ (x := iX)
 refine rB gc ?_ (x := dC)
 refine rA ?_ (x := aH gc)
 refine sc (fun hba => ?_) (fun hba => ?_)
 exact vr
 have hok : jq e = true := by
  have ho_ : aT e = true := by simp_all
  have hef_ := gU ho_
  unfold jq
  rw [ho_]
  simp only [Bool.true_and, aL, decide_eq_true_eq]
  exact ⟨by omega, by omega, by omega⟩
 obtain ⟨hoe, hst, hld, hda⟩ := xv hok
 refine eA ?_
 refine sP [1, 2, 3, 4] [1, 2, 4] ?_
 refine qM ?_
 refine wO [(1, _), (2, _), (3, _), (4, _)] [(1, _), (2, _), (4, _)] ?_
 refine sI (bx := 4) (L := (Lw w0.heap.size)) (qs := []) (as_ := []) (by decide) SV rfl (by exact rfl) (by exact rfl) (by exact tI) (by exact tI) (by decide) (by exact tI) (by exact (XN (by assumption) (by omega) (by omega) (by omega) (by omega))) (fun x hx => hx) (by exact lq) (by exact lq) ?_
 refine sw ?_
 refine ba ?_
 refine Jg ?_
 refine oM ?_
 exact (bj 2 (bj _ (aI (by exact rfl) (aI (by refine dW ?_; rw [BO hok]; exact rfl) (aI co (aI (fun h => nomatch h) (aI (by refine gZ ?_; rw [hok]) tI)))))))
end Go.Proofs.YtmekkgdboplbjaaGreatDoor
