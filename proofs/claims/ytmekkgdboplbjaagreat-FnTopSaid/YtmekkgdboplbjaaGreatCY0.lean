/- What functions of the program compute. No condition. -/
import Derived.Test.YtmekkgdboplbjaaGreatCW0
import Derived.Test.YtmekkgdboplbjaaGreatCX0
set_option linter.all false
namespace Go.Proofs.YtmekkgdboplbjaaGreat
open Go Go.RowKit M PV Tryz
set_option maxRecDepth 10000
attribute [local irreducible] PV.Lcl PV.LclR RV.Lcl
set_option maxHeartbeats 8000000
def adj : dY prog 63 = some [(0, 4), (4, 1), (5, 1), (6, 1)] := by kernel_rfl
def adk : dY prog 70 = some [(0, 1), (1, 1), (2, 1), (3, 1), (4, 1)] := by kernel_rfl
def adl {q : aeA} {r : Row}  : aN prog 151 [(true, [val (vI q.Id), val (vI q.aeE), sl .v (q.aeB.map bH), sl .v (q.Out.map am)]), (true, [val (vI r.Id), sl .v (r.Values.map am)])] (aJ [(false, [val (.bool (dN q r))])]) := by
 refine sF func151 fun h0 w0 Fz0 => ?_
 refine sn 0 2 fun hl0_2 => ?_
 refine sn 0 3 fun hl0_3 => ?_
 refine sn 1 1 fun hl1_1 => ?_
 refine PP ?_
 refine qG ?_
 refine rA ?_ (x := lD [val _, val _, sl .v _, sl .v _] eQ)
 refine OT ?_
 refine cx 10 (fun ga sga => ?_) (fun ga sga => ?_)
 refine mE ?_
 exact Ky
 refine rB ga ?_ (x := lD [val _, sl .v _] fj)
 refine rB ga ?_ (x := cL [(true, [val _, sl _ _])] [(true, [val _, sl .v _])] Ev (hs := by exact Fk))
 refine lO ?_
 refine sc ?_ ?_ <;> intro hba
 exact Ky
 have hok : ck q = true ∧ cf r = true := by simp_all
 refine zh ?_
 refine rA ?_ (x := lF jv)
 refine qU ?_
 refine sP [2, 3, 4, 16, 17, 18] [2, 3] ?_
 refine sL [2, 3, 16, 17] [2, 3] (fun k : Nat => k ≤ r.Values.length ∧ (∀ i : Nat, i < k → iU q (i : Int) (r.Values.getD i 0) = true)) (fun k : Nat => [(18, RV.int (k : Int))]) (fun k : Nat => []) (fun k : Nat => r.Values.length - k) 0 (by exact ⟨by omega, fun i hi => absurd hi (Nat.not_lt_zero _)⟩) (by exact aI (by exact rfl) tI) (by exact tI) ?_
 rintro k ⟨hk, ha⟩
 refine cn ?_
 refine sc ?_ ?_ <;> intro hbb
 have hlt : k < r.Values.length := by omega
 refine bi ?_
 refine sT [2, 3, 16, 17, 18] [2, 3] ?_
 refine rM ?_
 refine mF ?_
 refine rS ?_
 refine sS [2, 3, 5, 6, 16, 17, 18] [2, 3] ?_
 refine rA ?_ (x := lD [val _, val _, sl .v _, sl .v _] eQ)
 refine jS ?_
 refine rA ?_ (x := cL [(true, [val _, val _, sl _ _, sl _ _]), (false, [val _]), (false, [val _])] [(true, [val _, val _, sl .v _, sl .v _]), (false, [val _]), (false, [val _])] YA (hs := by exact acZ))
 refine rA ?_ (x := nT)
 refine sc ?_ ?_ <;> intro hbc
 have hno : dN q r = false := Wp (i := k) (by rw [← Er hlt]; simpa using hbc)
 refine sS [2, 3, 5, 6, 16, 17, 18] [2, 3] ?_
 refine cm ?_
 exact rb (hno.symm)
 have hyes : iU q (k : Int) (r.Values.getD k 0) = true := by rw [← Er hlt]; simpa using hbc
 refine bb ?_
 refine sG [2, 3, 5, 6, 16, 17, 18] [2, 3] ?_
 refine cF ?_
 refine nx (k + 1) (by exact ⟨by omega, fun i hi => by by_cases e : i = k; (· subst e; exact hyes); (· exact ha i (by omega))⟩)
 have hall := Wo hok.1 hok.2 (fun i hi => ha i (by omega))
 refine bq ?_
 refine sT [2, 3, 16, 17, 18] [2, 3] ?_
 refine cm ?_
 exact rb (hall.symm)
def adn {q : aeA} {r : Row}  : aN prog 91 [(true, [val (vI q.Id), val (vI q.aeE), sl .v (q.aeB.map bH), sl .v (q.Out.map am)]), (true, [val (vI r.Id), sl .v (r.Values.map am)])] (aJ [(false, [val (.bool (dN q r))])]) := by
 refine sF func91 fun h0 w0 Fz0 => ?_
 refine sn 0 2 fun hl0_2 => ?_
 refine sn 0 3 fun hl0_3 => ?_
 refine sn 1 1 fun hl1_1 => ?_
 refine PP ?_
 refine qG ?_
 refine yV ?_
 refine sL [2, 3] [2, 3] (fun k : Nat => k ≤ q.aeB.length ∧ (q.aeB.take k).all (lV r) = true) (fun k : Nat => [(5, RV.int (k : Int))]) (fun k : Nat => []) (fun k : Nat => q.aeB.length - k) 0 (by exact ⟨by omega, by simp⟩) (by exact aI (by exact rfl) tI) (by exact tI) ?_
 rintro k ⟨hk, ha⟩
 refine de ?_
 refine zq ?_
 refine rM ?_
 refine cx 12 (fun ga sga => ?_) (fun ga sga => ?_)
 refine rB ga ?_ (x := lD [val _, sl .v _] fj)
 refine rB ga ?_ (x := cL [(true, [val _, sl _ _])] [(true, [val _, sl .v _])] wu (hs := by exact wG))
 refine jP ?_
 refine cx 16 (fun gb sgb => ?_) (fun gb sgb => ?_)
 refine NY ?_
 refine rA ?_ (x := aO gb)
 refine sc ?_ ?_ <;> intro hba
 have hlt : k < q.aeB.length := by first | (simp_all; done) | (simp_all; omega)
 have hok : cf r = true ∧ ck q = true := by simp_all
 have hf := Es hok.2 (List.getElem_mem hlt)
 have hl := rg hok.1
 refine bi ?_
 refine sT [2, 3, 5] [2, 3] ?_
 refine vn ?_
 refine rM ?_
 refine DK ?_
 refine Df ?_
 refine sO [(2, _), (3, _), (5, _), (6, _)] [(2, _), (3, _), (6, (178, [val _, val _, val _]))] ?_
 refine da cG ?_
 refine dA 0 ?_ (x := lF jv)
 refine dA 1 ?_ (x := lD [sl .v _] bF)
 refine dA 0 ?_ (x := lF oF)
 refine dA 4 ?_ (x := lD [val _] az)
 refine dA 15 ?_ (x := aU (k := q.aeB[k].Field.toNat) (by decide) bC (by exact tI) (by omega) (by exact aW (by omega) (by rw [Er (d := 0) (by omega)])) (by exact rfl))
 refine dA 31 ?_ (x := lE [val _] az)
 refine dA 0 ?_ (x := lF zG)
 refine dA 64 ?_ (x := lD [val _] az)
 refine dA 0 ?_ (x := lF rj)
 refine dA 256 ?_ (x := lD [val _] az)
 refine dA 1023 ?_ (x := cL [(false, [val _]), (false, [val _]), (false, [val _])] [(false, [val _]), (false, [val _]), (false, [val _])] fX (hs := by exact gl))
 refine dA 2047 ?_ (x := nT)
 refine sc ?_ ?_ <;> intro hbb
 have hno : lV r q.aeB[k] = false := by simpa [lV, gU] using hbb
 refine sS [2, 3, 5, 6] [2, 3, 6] ?_
 refine cm ?_
 exact rb (by simp [dN, kE hlt hno])
 have hyes : lV r q.aeB[k] = true := by simpa [lV, gU] using hbb
 refine bb ?_
 refine sG [2, 3, 5, 6] [2, 3, 6] ?_
 exact pj
 exact Kz
 refine pz ?_
 refine eX ?_
 exact Kz
 refine gu ?_
 refine aq.cases (s := 16) rfl (fun g8 => nomatch g8) (fun g8 => ?_)
 refine te ?_
 refine eX ?_
 have hend : cf r = true → ck q = true → q.aeB.all (lV r) = true := fun h1 h2 => jr (by rw [show q.aeB.length = k by first | (simp_all; done) | (simp_all; omega)]; exact ha)
 refine yW ?_
 refine Dd ?_
 refine rM ?_
 refine cx 41 (fun gb sgb => ?_) (fun gb sgb => ?_)
 refine NY ?_
 refine rA ?_ (x := aO gb)
 exact xY
 refine pz ?_
 exact xY
def ado {p1 p2 p5 p6 p7 p8 p9 p11 p12 p13 p14 p16 p17 p18 : Fl} {e : aA}  (hb : bp e ≤ 68719000000) : aN prog 54 [(true, [sl .v (e.Store.aey.map (aG p1 p2)), val (vI e.Store.Now), val (vI e.aeD), sl .v (e.Order.map am), sl .v (e.aez.map (aT p5 p6 p7 p8 p9)), sl .v (e.Done.map (bn p11 p12 p13 p14)), sl .v (e.aeL.map (bl p16 p17 p18)), val (vI e.Steps)])] (aJ [(true, [sl bz ((cz e).Store.aey.map (aG aV ab)), val (vI (cz e).Store.Now), val (vI (cz e).aeD), sl ab ((cz e).Order.map am), sl ce ((cz e).aez.map (aT aD ab ab aE ab)), sl bT ((cz e).Done.map (bn aD ab aE ab)), sl bY ((cz e).aeL.map (bl ab ab ab)), val (vI (cz e).Steps)]), (false, [val (.bool (im e))])]) := by
 refine mq (largs := fun L => [(true, [sl (.lo L) (e.Store.aey.map (aG (.lo L) (.lo L))), val (vI e.Store.Now), val (vI e.aeD), sl (.lo L) (e.Order.map am), sl (.lo L) (e.aez.map (aT (.lo L) (.lo L) (.lo L) (.lo L) (.lo L))), sl (.lo L) (e.Done.map (bn (.lo L) (.lo L) (.lo L) (.lo L))), sl (.lo L) (e.aeL.map (bl (.lo L) (.lo L) (.lo L))), val (vI e.Steps)])]) (rs := [(true, [sl bz ((cz e).Store.aey.map (aG aV ab)), val (vI (cz e).Store.Now), val (vI (cz e).aeD), sl ab ((cz e).Order.map am), sl ce ((cz e).aez.map (aT aD ab ab aE ab)), sl bT ((cz e).Done.map (bn aD ab aE ab)), sl bY ((cz e).aeL.map (bl ab ab ab)), val (vI (cz e).Steps)]), (false, [val (.bool (im e))])]) func54 rfl (nl rfl) (fun L => by exact (aI (aI rfl (ae.cons (aP (fun _ => nl rfl) (fun _ => (ae.cons (aP (fun _ => nl rfl) (fun _ => (ae.cons av (ae.cons (aP (fun _ => nl rfl) (fun _ => (ae.cons av ae.nil))) (ae.cons av (ae.cons av ae.nil)))))) ae.nil))) (ae.cons av (ae.cons av (ae.cons (aP (fun _ => nl rfl) (fun _ => (ae.cons av ae.nil))) (ae.cons (aP (fun _ => nl rfl) (fun _ => (ae.cons av (ae.cons av (ae.cons (aP (fun _ => nl rfl) (fun _ => (ae.cons av (ae.cons av (ae.cons av ae.nil))))) (ae.cons (aP (fun _ => nl rfl) (fun _ => (ae.cons av ae.nil))) (ae.cons av (ae.cons (aP (fun _ => nl rfl) (fun _ => (ae.cons av ae.nil))) (ae.cons av (ae.cons av (ae.cons av (ae.cons (aP (fun _ => nl rfl) (fun _ => (ae.cons av (ae.cons (aP (fun _ => nl rfl) (fun _ => (ae.cons av ae.nil))) ae.nil)))) ae.nil)))))))))))) (ae.cons (aP (fun _ => nl rfl) (fun _ => (ae.cons av (ae.cons av (ae.cons (aP (fun _ => nl rfl) (fun _ => (ae.cons av (ae.cons av (ae.cons av ae.nil))))) (ae.cons (aP (fun _ => nl rfl) (fun _ => (ae.cons av ae.nil))) (ae.cons av (ae.cons av (ae.cons (aP (fun _ => nl rfl) (fun _ => (ae.cons av (ae.cons (aP (fun _ => nl rfl) (fun _ => (ae.cons av ae.nil))) ae.nil)))) ae.nil))))))))) (ae.cons (aP (fun _ => nl rfl) (fun _ => (ae.cons av (ae.cons av (ae.cons (aP (fun _ => nl rfl) (fun _ => (ae.cons av ae.nil))) (ae.cons (aP (fun _ => nl rfl) (fun _ => (ae.cons av ae.nil))) (ae.cons (aP (fun _ => nl rfl) (fun _ => (ae.cons av ae.nil))) ae.nil))))))) (ae.cons av ae.nil))))))))) tI)) (fun L => by exact lq) ?_
 intro w0 Fz0
 refine sn 0 0 fun hl0_0 => ?_
 refine sn 0 3 fun hl0_3 => ?_
 refine sn 0 4 fun hl0_4 => ?_
 refine sn 0 5 fun hl0_5 => ?_
 refine sn 0 6 fun hl0_6 => ?_
 have hbu := hb
 simp only [bp, fB, fC, fV] at hbu
 refine va ?_
 refine NJ ?_
 refine CG ?_
 refine ob ?_
 refine Pc ?_
 refine og ?_
 refine CH ?_
 refine cx 22 (fun ga sga => ?_) (fun ga sga => ?_)
 refine jq ?_
 refine aq.cases (s := 27) rfl (fun g2 => ?_) (fun g2 => nomatch g2)
 refine nq ?_
 refine aq.cases (s := 33) rfl (fun g3 => ?_) (fun g3 => nomatch g3)
 exact KA
 refine rB ga ?_ (x := lF lv)
 refine vh ?_
 refine mB ?_
 refine cx 27 (fun gb sgb => ?_) (fun gb sgb => ?_)
 refine mC ?_
 refine aq.cases (s := 33) rfl (fun g6 => ?_) (fun g6 => nomatch g6)
 exact KB
 refine rB gb ?_ (x := lF iV)
 refine rB gb ?_ (x := lD [sl (.lo _) _] iW)
 refine rB gb ?_ (x := lN fL)
 refine rB gb ?_ (x := dQ)
 refine pn ?_
 refine cx 33 (fun gc sgc => ?_) (fun gc sgc => ?_)
 exact KC
 refine rB gc ?_ (x := lF jY)
 refine rB gc ?_ (x := lD [sl (.lo _) _] kd)
 refine rB gc ?_ (x := lN jw)
 refine rB gc ?_ (x := lF ee)
 refine rB gc ?_ (x := lD [sl (.lo _) _] dR)
 refine rB gc ?_ (x := lN cg)
 refine rB gc ?_ (x := jm)
 refine rB gc ?_ (x := dI)
 refine rA ?_ (x := aF gc)
 refine sc ?_ ?_ <;> intro hba
 exact uU
 have hok : im e = true := by
  have ho_ : aX e = true := by simp_all
  have hef_ := gW ho_
  unfold im
  rw [ho_]
  simp only [Bool.true_and, aS, decide_eq_true_eq]
  exact ⟨by omega, by omega, by omega⟩
 obtain ⟨hoe, hst, hld, hda⟩ := wH hok
 have hef := gW hoe
 have hcl : e.aeD.toNat < e.Store.aey.length := hef.2.2.2.1
 have hpl := wD (e := e)
 have hs4 := Ap hoe
 have hswt := FI hoe
 refine bb ?_
 refine sS [1, 2, 3, 4] [1, 2, 4] ?_
 refine rA ?_ (x := lF gG)
 refine vz ?_
 refine sY ?_
 refine rA ?_ (x := aU (k := e.aeD.toNat) (by decide) eP (by exact tI) (by omega) (by exact aW hcl (by rw [df (d := ([] : List aR)) hcl])) (by exact rfl))
 refine rA ?_ (x := lE [sl (.lo _) _] ie)
 refine rA ?_ (x := vA false [sl (.lo _) _])
 refine sS [1, 2, 3, 4, 5] [1, 2, 4] ?_
 refine sY ?_
 refine rA ?_ (x := vM false [sl (.lo _) _])
 refine rA ?_ (x := lN cy)
 refine rA ?_ (x := dp (qs := [(false, [val _]), (false, [val _])]) (cs := [val _, val _, sl _ _, sl _ _, sl _ _]) (by decide) kf rr adk (by exact rfl) (by exact (aI (by exact tI) (aI (by exact tI) tI))) rfl (by exact rfl))
 refine sE ?_
 refine dJ ?_
 refine sO [(1, _), (2, _), (3, _), (4, _), (5, _), (6, _)] [(1, _), (2, _), (4, _), (6, (70, [val _, val _, sl _ _, sl _ _, sl _ _]))] ?_
 refine og ?_
 refine rA ?_ (x := cL [(true, [sl (.lo _) _, val _, val _, sl (.lo _) _, sl (.lo _) _, sl (.lo _) _, sl (.lo _) _, val _])] [(true, [sl .v _, val _, val _, sl .v _, sl .v _, sl .v _, sl .v _, val _])] Yc (hs := by exact (adi (by omega))))
 refine rA ?_ (x := lN bC)
 refine eo ?_
 refine sP [1, 2, 3, 4, 5, 6, 57, 58, 59] [1, 2, 4, 6] ?_
 refine sL [1, 2, 3, 4, 5, 6, 57, 58] [1, 2] (fun k : Nat => k ≤ (parts e).length) (fun k : Nat => [(59, RV.int (k : Int))]) (fun k : Nat => [(4, (32, [sl bz (e.Store.aey.map (aG aV ab)), val (vI e.Store.Now), val (vI e.aeD), sl ab (e.Order.map am), sl ce ((bW e k).map (aT aD ab ab aE ab)), sl bT (e.Done.map (bn aD ab aE ab)), sl bY (e.aeL.map (bl ab ab ab)), val (vI e.Steps)])), (6, (70, [val (vI (ej e k).Segment), val (vI (ej e k).Base), sl ab ((ej e k).Ids.map am), sl ab ((ej e k).aeF.map am), sl ab ((ej e k).Rows.map am)]))]) (fun k : Nat => (parts e).length - k) 0 (by omega) (by exact aI (by exact rfl) tI) (by exact aI (by rw [Fu]; exact rfl) (aI (by exact rfl) tI)) ?_
 rintro k hk
 have hcg := Ao (e := e) hk
 have hsl := kU (e := e) (k := k)
 refine cn ?_
 refine sc ?_ ?_ <;> intro hbb
 have hlt : k < (parts e).length := by omega
 obtain ⟨i, hi, hf, hid, hpp⟩ := Ft hoe hlt
 have hil : i < (bW e k).length := by omega
 have hoa := At (hef.2.2.2.2.2.2.2.2.2.1 _ (List.getElem_mem hi))
 have hwa := di (f := dc) hi
 have hwq : dc e.aez[i] = eZ e.aez[i].aeA + e.aez[i].aeI.length + dj e.aez[i].Rows := by simp only [dc, dE, bf]; omega
 have hga4 := Av hoe e.aez[i]
 have hvl := uc (cc e) e.aez[i].Time
 refine dh ?_
 refine MW ?_
 refine mF ?_
 refine sS [1, 2, 3, 4, 5, 6, 8, 57, 58, 59] [1, 2, 4, 6] ?_
 refine rA ?_ (x := lD [sl (.lo _) _, val _, val _, sl (.lo _) _, sl (.lo _) _, sl (.lo _) _, sl (.lo _) _, val _] bU)
 refine rM ?_
 refine Nl ?_
 refine sP [1, 2, 3, 4, 5, 6, 8, 9, 57, 58, 59] [1, 2, 4, 6] ?_
 refine jL (d := 4) (t := 32) (D := 900) (G := 2900) (E := 108) (e := 10) (L := (Lw w0.heap.size)) (A := [sl _ _, val _, val _, sl _ _]) (B := [sl _ _, sl _ _, val _]) (es := ((bW e k)).map (aT aD ab ab aE ab)) (by exact rfl) (iN hil) (by exact rfl) (by exact rfl) rfl (by exact rfl) (fun x hx => hx) (by exact lq) (by exact lq) (by exact lq) (by exact lq) (ar.map fun x => (ar.cons lcl_val (ar.cons lcl_val (ar.cons (lcl_own (ar.map fun x => (ar.cons lcl_val (ar.cons lcl_val (ar.cons lcl_val ar.nil))))) (ar.cons (lcl_own (ar.map fun x => (ar.cons lcl_val ar.nil))) (ar.cons lcl_val (ar.cons (lcl_own (ar.map fun x => (ar.cons lcl_val ar.nil))) (ar.cons lcl_val (ar.cons lcl_val (ar.cons lcl_val (ar.cons (lcl_own (ar.map fun x => (ar.cons lcl_val (ar.cons (lcl_own (ar.map fun x => (ar.cons lcl_val ar.nil))) ar.nil)))) ar.nil))))))))))) fun uu900 cp900 jk900 hlD900 hcp900 hjk900 => ?_
 rw [aw] at hlD900 hcp900 hjk900
 refine cV (d := 900) (by exact rfl) (iM (k := i) hil) ?_
 have hA900 := jl (f := (aT aD ab ab aE ab)) (e := 10) (xs := (bW e k)) (k := i) (fun _ => rfl) (Nat.le_of_lt hil)
 refine cV (d := 900) (by exact rfl) (congrArg (fun z_ => ((((bW e k)).take i).map (aT aD ab ab aE ab)).flatten ++ ((aT aD ab ab aE ab) z_ ++ (((((bW e k)).drop (i + 1)).map (aT aD ab ab aE ab)).flatten ++ jk900.map val))) (RW hoe hlt hi hid hil)) ?_
 refine sO [(1, _), (2, _), (3, _), (4, _), (5, _), (6, _), (8, _), (9, _), (57, _), (58, _), (59, _), (2900, _)] [(1, _), (2, _), (4, (32, [sl _ _, val _, val _, sl _ _, val _, sl _ _, sl _ _, val _])), (6, _), (900, (108, _ ++ ([val _, val _, sl _ _, sl _ _, val _, sl _ _, val _, val _, val _, sl _ _] ++ _)))] ?_
 refine bd ?_
 refine rA ?_ (x := lF ee)
 refine rA ?_ (x := lD [val _] dR)
 refine rM ?_
 refine rA ?_ (x := iw (k := i) (G := 2900) (by decide) cg (by exact tI) (by omega) (by first | (rw [aw]; exact hil) | exact hil))
 refine rA ?_ (x := Bp (o := 0) (ms := [val _, val _, sl _ _, sl _ _, val _, sl _ _, val _, val _, val _, sl _ _]) (qs := [val _, val _, sl .v _, sl .v _, val _, sl .v _, val _, val _, val _, sl .v _]) (by omega) (by decide) gv (fun h => nomatch h) (by exact nl rfl) (by exact rfl) (by exact (ak (ak (aB (aB (ak (aB (ak (ak (ak (aB ao.nil))))))))))) (by exact lq))
 refine qy ?_
 refine be ?_
 refine sO [(1, _), (2, _), (3, _), (4, _), (5, _), (6, _), (8, _), (9, _), (10, _), (57, _), (58, _), (59, _), (2900, _)] [(1, _), (2, _), (4, _), (6, _), (10, (108, [val _, val _, sl _ _, sl _ _, val _, sl _ _, val _, val _, val _, sl _ _])), (900, (108, _ ++ ([val _, val _, sl _ _, sl _ _, val _, sl _ _, val _, val _, val _, sl _ _] ++ _)))] ?_
 refine bd ?_
 refine eH ?_
 refine sS [1, 2, 3, 4, 5, 6, 8, 9, 10, 11, 57, 58, 59, 2900] [1, 2, 4, 6, 10, 900] ?_
 refine Do ?_
 refine sY ?_
 refine DO ?_
 refine rA ?_ (x := cL [(true, [sl (.lo _) _, val _]), (false, [val _]), (false, [val _])] [(true, [sl .v _, val _]), (false, [val _]), (false, [val _])] Yd (hs := by exact (ade (by omega) (by omega) (by omega))))
 refine rA ?_ (x := lN fD)
 refine eo ?_
 refine sP [1, 2, 3, 4, 5, 6, 8, 9, 10, 11, 57, 58, 59, 77, 78, 79, 2900] [1, 2, 4, 6, 10, 900] ?_
 refine Ie (s := 77) (t := 54) (e := 2) (G := 6100) (f := (bI ab)) (g := (fun z : Row => [val (vI z.Id), sl .v (z.Values.map am)])) (fN := aai) (xs := (bV (cc e) e.aez[i].Time)) (by exact rfl) (by exact rfl) (by exact rfl) (fun _ _ => rfl) (fun _ => rfl) (fun _ => (ak (aB ao.nil))) (fun _ => (aj.cons (bor_val _) (aj.cons (bor_sl _) aj.nil))) fun zr hzr => ?_
 have hzl : zr.length = (bV (cc e) e.aez[i].Time).length := by rw [← hzr, aw]
 have hve : (bV (e.Store.aey.getD e.aeD.toNat []) e.aez[i].Time).length = (bV (cc e) e.aez[i].Time).length := rfl
 refine sP [1, 2, 3, 4, 5, 6, 8, 9, 10, 11, 57, 58, 59, 77, 78, 79, 2900, 6100] [1, 2, 4, 6, 10, 900] ?_
 refine sL [1, 2, 3, 4, 5, 6, 8, 9, 10, 57, 58, 59, 77, 78, 2900] [1, 2, 4, 6, 900] (fun j : Nat => j ≤ zr.length) (fun j : Nat => [(11, RV.int ((iD e e.aez[i] j).length : Int)), (79, RV.int (j : Int)), (6100, RV.gh (bm 2 (zr.drop j)) (bK (bI ab) (zr.drop j)))]) (fun j : Nat => [(10, (108, [val (vI e.aez[i].aeA.Id), val (vI e.aez[i].aeA.aeE), sl aD (e.aez[i].aeA.aeB.map bH), sl ab (e.aez[i].aeA.Out.map am), val (vI e.aez[i].Time), sl ab (e.aez[i].aeI.map am), val (vI e.aez[i].Age), val (vI e.aez[i].Sent), val (vI e.aez[i].Cap), sl aE ((e.aez[i].Rows ++ iD e e.aez[i] j).map (bI ab))]))]) (fun j : Nat => zr.length - j) 0 (by omega) (by exact aI (by exact rfl) (aI (by exact rfl) (aI (by exact rfl) tI))) (by exact aI (by show _ = some (108, [val (vI e.aez[i].aeA.Id), val (vI e.aez[i].aeA.aeE), sl aD (e.aez[i].aeA.aeB.map bH), sl ab (e.aez[i].aeA.Out.map am), val (vI e.aez[i].Time), sl ab (e.aez[i].aeI.map am), val (vI e.aez[i].Age), val (vI e.aez[i].Sent), val (vI e.aez[i].Cap), sl aE ((e.aez[i].Rows ++ iD e e.aez[i] 0).map (bI ab))]); rw [show iD e e.aez[i] 0 = [] from rfl, dP]; exact rfl) tI) ?_
 rintro j hj
 have hgl := FG hoe e.aez[i] j
 refine cn ?_
 refine sc ?_ ?_ <;> intro hbc
 have hltz : j < zr.length := by omega
 have hjv : j < (bV (cc e) e.aez[i].Time).length := by omega
 have hz3 : zr[j].1 = (bV (cc e) e.aez[i].Time)[j] := by simp [← hzr]
 refine dh ?_
 refine MA ?_
 refine rA ?_ (x := aU (by decide) fD (by exact tI) (by exact rfl) (by exact aW (by omega) rfl) (by exact rfl))
 refine rA ?_ (x := nS (qs := [nv _ (val _), nv _ (sl .v _)]) (by decide) fj (fun h => nomatch h) (by exact nl rfl) (by exact (ak (ak ao.nil))) (by exact (aj.cons (bor_nv (bor_val _)) (aj.cons (bor_nv (bor_sl _)) aj.nil))))
 refine rX ?_ (x := (cr (by decide) gJ mb))
 refine rA ?_ (x := bh (ag := true) (vs := [nv _ (val _), nv _ (sl _ _)]) fj (by exact tI) (by exact rfl) (by exact nl rfl))
 refine sO [(1, _), (2, _), (3, _), (4, _), (5, _), (6, _), (8, _), (9, _), (10, _), (11, _), (13, _), (57, _), (58, _), (59, _), (77, _), (78, _), (79, _), (2900, _), (6100, _)] [(1, _), (2, _), (4, _), (6, _), (10, _), (13, (54, [nv _ (val _), nv _ (sl _ _)])), (900, _)] ?_
 refine BF (d := 13) (G := 6100) (e := 2) (f := (bI ab)) (z := zr[j]) (zs := (zr.drop (j + 1))) (by exact rfl) (by exact (Nm.nv (Nm.nv Nm.nil))) (fun _ => rfl) (by rw [← List.drop_eq_getElem_cons hltz]; exact rfl) ?_
 refine be ?_
 refine sO [(1, _), (2, _), (3, _), (4, _), (5, _), (6, _), (8, _), (9, _), (10, _), (11, _), (13, _), (57, _), (58, _), (59, _), (77, _), (78, _), (79, _), (2900, _), (6100, _)] [(1, _), (2, _), (4, _), (6, _), (10, _), (13, (54, [val _, sl _ _])), (900, _)] ?_
 refine bd ?_
 refine vu ?_
 refine rA ?_ (x := lD [val _, sl .v _] fj)
 refine rA ?_ (x := cL [(true, [val _, val _, sl _ _, sl _ _]), (true, [val _, sl _ _])] [(true, [val _, val _, sl .v _, sl .v _]), (true, [val _, sl .v _])] Ye (hs := by exact adl))
 refine sc ?_ ?_ <;> intro hbd
 have hm : dN e.aez[i].aeA (bV (cc e) e.aez[i].Time)[j] = true := by rw [← hz3]; simpa using hbd
 refine sS [1, 2, 3, 4, 5, 6, 8, 9, 10, 11, 13, 57, 58, 59, 77, 78, 79, 2900, 6100] [1, 2, 4, 6, 10, 13, 900] ?_
 refine Nz ?_
 refine rA ?_ (x := cP (ms := [val _, sl _ _]) (qs := [val _, sl .v _]) (by decide) fj (fun h => nomatch h) (by exact nl rfl) (by exact rfl) (by exact (ak (aB ao.nil))) (by exact (aj.cons (bor_val _) (aj.cons (bor_sl _) aj.nil))))
 refine Mr ?_
 refine Pf ?_
 refine sO [(1, _), (2, _), (3, _), (4, _), (5, _), (6, _), (8, _), (9, _), (10, _), (11, _), (13, _), (57, _), (58, _), (59, _), (77, _), (78, _), (79, _), (2900, _), (6100, _)] [(1, _), (2, _), (4, _), (6, _), (10, (108, [val _, val _, sl _ _, sl _ _, val _, sl _ _, val _, val _, val _, sl _ _])), (13, (54, [val _, sl _ _])), (900, _)] ?_
 refine pE ?_
 exact KD
 have hm : dN e.aez[i].aeA (bV (cc e) e.aez[i].Time)[j] = false := by rw [← hz3]; simpa using hbd
 refine bb ?_
 exact KD
 have hjend : j = (bV (cc e) e.aez[i].Time).length := by omega
 have hgt : iD e e.aez[i] j = iC e e.aez[i] := by rw [hjend]; exact Fw
 rw [hgt]
 refine er ?_
 refine MA ?_
 refine rA ?_ (x := lF mI)
 refine oo ?_
 refine rA ?_ (x := jm)
 refine rA ?_ (x := lF mI)
 refine my ?_
 refine Ng ?_
 refine rA ?_ (x := lF jt)
 refine rA ?_ (x := lD [sl .v _] bF)
 refine sY ?_
 refine rA ?_ (x := cL [(false, [sl _ _]), (false, [val _])] [(false, [sl .v _]), (false, [val _])] Yf (hs := by exact (adb (by omega))))
 refine rA ?_ (x := lF jt)
 refine vl ?_
 refine Ng ?_
 refine rA ?_ (x := lF ee)
 refine rA ?_ (x := lD [val _] dR)
 refine rM ?_
 refine rA ?_ (x := cP (ms := [val _, val _, sl _ _, sl _ _, val _, sl _ _, val _, val _, val _, sl _ _]) (qs := [val _, val _, sl .v _, sl .v _, val _, sl .v _, val _, val _, val _, sl .v _]) (by decide) gv (fun h => nomatch h) (by exact nl rfl) (by exact rfl) (by exact (ak (ak (aB (aB (ak (aB (ak (ak (ak (aB ao.nil))))))))))) (by exact lq))
 refine rA ?_ (x := iw (k := i) (G := 2900) (by decide) cg (by exact tI) (by omega) (by first | (rw [aw]; exact hil) | exact hil))
 refine rA ?_ (x := nd (o := 0) (ag := true) (vs := [val _, val _, sl _ _, sl _ _, val _, sl _ _, val _, val _, val _, sl _ _]) (by omega) gv (by exact tI) (by exact rfl) (by exact nl rfl))
 refine cV (d := 900) (by exact rfl) (ng (lB e e.aez[i]) hil (by exact rfl)) ?_
 refine nX (d := 4) (D := 900) (G := 2900) (e := 10) (A := [sl _ _, val _, val _, sl _ _]) (B := [sl _ _, sl _ _, val _]) (es := (((bW e k)).set i (lB e e.aez[i])).map (aT aD ab ab aE ab)) (by exact rfl) (by exact rfl) (by exact rfl) rfl (by rw [aw, List.length_set, aw]) (by intro c hc; obtain ⟨y, _, rfl⟩ := List.mem_map.1 hc; exact rfl) (by rw [aw]; exact hjk900) ?_
 refine be ?_
 refine sO [(1, _), (2, _), (3, _), (4, _), (5, _), (6, _), (8, _), (9, _), (10, _), (11, _), (57, _), (58, _), (59, _), (77, _), (78, _), (79, _), (6100, _)] [(1, _), (2, _), (4, (32, [sl _ _, val _, val _, sl _ _, sl _ _, sl _ _, sl _ _, val _])), (6, _), (10, (108, [val _, val _, sl _ _, sl _ _, val _, sl _ _, val _, val _, val _, sl _ _]))] ?_
 refine bd ?_
 refine rA ?_ (x := lF lX)
 refine qW ?_
 refine rA ?_ (x := lF lX)
 refine vl ?_
 refine MN ?_
 refine rA ?_ (x := lF lY)
 refine rA ?_ (x := cP (ms := [sl _ _]) (qs := [sl .v _]) (by decide) bF (fun _ => rfl) (by exact nl rfl) (by exact rfl) (by exact (aB ao.nil)) (by exact (aj.cons (bor_sl _) aj.nil)))
 refine rA ?_ (x := lF gV)
 refine rA ?_ (x := lF rm)
 refine rA ?_ (x := lD [val _] az)
 refine Cs ?_
 refine rA ?_ (x := lF lY)
 refine PB ?_
 refine rA ?_ (x := lF kb)
 refine qW ?_
 refine rA ?_ (x := lF kb)
 refine PB ?_
 refine cF ?_
 refine nx (k + 1) (by omega) (f := (by exact aI (by rw [← RX hoe hlt hi hid]; exact rfl) (aI (by rw [ZT hlt hi hf]; simp only [bj]; exact rfl) tI)))
 have hend : k = (parts e).length := by omega
 subst hend
 refine bq ?_
 refine dJ ?_
 refine MW ?_
 refine rA ?_ (x := lF lX)
 refine oh ?_
 refine rA ?_ (x := dI)
 refine sc ?_ ?_ <;> intro hbc
 have hled : gz e (parts e).length = e.aeL ++ [ej e (parts e).length] := by unfold gz; rw [if_neg (by omega)]
 refine sG [1, 2, 3, 4, 5, 6, 57, 58, 59] [1, 2, 4, 6] ?_
 refine rA ?_ (x := lF iV)
 refine rA ?_ (x := cP (ms := [sl _ _]) (qs := [sl .v _]) (by decide) iW (fun _ => rfl) (by exact nl rfl) (by exact rfl) (by exact (aB ao.nil)) (by exact (aj.cons (bor_sl _) aj.nil)))
 refine rA ?_ (x := cP (ms := [val _, val _, sl _ _, sl _ _, sl _ _]) (qs := [val _, val _, any, any, any]) (by decide) iX (fun h => nomatch h) (by exact nl rfl) (by exact rfl) (by exact (ak (ak (ao.cons PV.to_any (ao.cons PV.to_any (ao.cons PV.to_any ao.nil)))))) (by exact lq))
 refine rA ?_ (x := bP (qs := [(true, [val _, val _, sl _ _, sl _ _, sl _ _])]) (by decide) fL kf (by decide) rfl rfl rfl rfl rfl (by exact nl rfl) (by exact (aI (by exact tI) tI)) rfl)
 refine rA ?_ (x := en (by decide) fL kf rfl rfl (by decide) rfl (by simp only [aw, aM, List.length_cons, List.length_nil]; omega) (by simp only [aw, aM, List.length_cons, List.length_nil]; omega))
 refine rA ?_ (x := lF iV)
 refine rA ?_ (x := bh (ag := false) (vs := [sl _ _]) iW (by exact tI) (by exact rfl) (by exact nl rfl))
 refine be ?_
 refine sO [(1, _), (2, _), (3, _), (4, _), (5, _), (6, _), (57, _), (58, _), (59, _)] [(1, _), (2, _), (4, (32, [sl _ _, val _, val _, sl _ _, sl _ _, sl _ _, sl _ _, val _])), (6, (70, [val _, val _, any, any, any]))] ?_
 refine bd ?_
 refine vi ?_
 refine dJ ?_
 refine sP [1, 2, 3, 4, 5, 6, 14, 57, 58, 59] [1, 2, 4, 6] ?_
 refine sk (d := 4) (t := 108) (e := 10) (G := 6200) (A := [sl _ _, val _, val _, sl _ _]) (B := [sl _ _, sl _ _, val _]) (f := (aT aD ab ab aE ab)) (g := (fun z : aez => [val (vI z.aeA.Id), val (vI z.aeA.aeE), sl .v (z.aeA.aeB.map bH), sl .v (z.aeA.Out.map am), val (vI z.Time), sl .v (z.aeI.map am), val (vI z.Age), val (vI z.Sent), val (vI z.Cap), sl .v (z.Rows.map (bI ab))])) (fN := ff) (xs := (bW e (parts e).length)) (by exact rfl) (by exact rfl) (fun _ _ => rfl) (fun _ => rfl) (fun _ => (ak (ak (aB (aB (ak (aB (ak (ak (ak (aB ao.nil))))))))))) (fun _ => (by exact lq)) fun za hza => ?_
 have hzal : za.length = e.aez.length := by rw [← aw (f := Prod.fst), hza, kU]
 refine NL ?_
 refine oz ?_
 refine Ms ?_
 rintro m hm
 have hrl2 := Aq (e := e) (k := (parts e).length) (m := m)
 have hdl2 := Ar (e := e) (k := (parts e).length) (m := m)
 refine cn ?_
 refine sc ?_ ?_ <;> intro hbd
 have hltm : m < e.aez.length := by omega
 have hltz : m < za.length := by omega
 have hm2 : m < (bW e (parts e).length).length := by rw [kU]; exact hltm
 have hm1 : m < (cR e (parts e).length).length := by rw [ud]; exact hltm
 have hz3 : za[m].1 = (bW e (parts e).length)[m] := by simp [← hza]
 have hab := Au hoe hltm hm2
 rw [← hz3] at hab
 refine dh ?_
 refine sO [(1, _), (2, _), (3, _), (4, _), (5, _), (6, _), (14, _), (57, _), (58, _), (59, _), (145, _), (146, _), (147, _), (6200, _)] [(1, (32, [sl (.lo _) _, val _, val _, sl (.lo _) _, sl (.lo _) _, sl (.lo _) _, sl (.lo _) _, val _])), (2, (32, [sl _ _, val _, val _, sl _ _, sl _ _, sl _ _, sl _ _, val _])), (4, (32, [sl _ _, val _, val _, sl _ _, sl _ _, sl _ _, sl _ _, val _])), (6, (70, [val _, val _, any, any, any]))] ?_
 exact KH
 have hend2 : m = e.aez.length := by omega
 subst hend2
 refine er ?_
 refine sO [(1, _), (2, _), (3, _), (4, _), (5, _), (6, _), (14, _), (57, _), (58, _), (59, _), (145, _), (146, _), (147, _), (6200, _)] [(1, (32, [sl (.lo _) _, val _, val _, sl (.lo _) _, sl (.lo _) _, sl (.lo _) _, sl (.lo _) _, val _])), (2, (32, [sl _ _, val _, val _, sl _ _, sl _ _, sl _ _, sl _ _, val _])), (4, (32, [sl _ _, val _, val _, sl _ _, sl _ _, sl _ _, sl _ _, val _])), (6, (70, [val _, val _, any, any, any]))] ?_
 exact KJ
 have hled : gz e (parts e).length = e.aeL := by unfold gz; rw [if_pos (by omega)]
 refine bb ?_
 refine sS [1, 2, 3, 4, 5, 6, 57, 58, 59] [1, 2, 4, 6] ?_
 refine vi ?_
 refine dJ ?_
 refine sP [1, 2, 3, 4, 5, 6, 14, 57, 58, 59] [1, 2, 4, 6] ?_
 refine sk (d := 4) (t := 108) (e := 10) (G := 6200) (A := [sl _ _, val _, val _, sl _ _]) (B := [sl _ _, sl _ _, val _]) (f := (aT aD ab ab aE ab)) (g := (fun z : aez => [val (vI z.aeA.Id), val (vI z.aeA.aeE), sl .v (z.aeA.aeB.map bH), sl .v (z.aeA.Out.map am), val (vI z.Time), sl .v (z.aeI.map am), val (vI z.Age), val (vI z.Sent), val (vI z.Cap), sl .v (z.Rows.map (bI ab))])) (fN := ff) (xs := (bW e (parts e).length)) (by exact rfl) (by exact rfl) (fun _ _ => rfl) (fun _ => rfl) (fun _ => (ak (ak (aB (aB (ak (aB (ak (ak (ak (aB ao.nil))))))))))) (fun _ => (by exact lq)) fun za hza => ?_
 have hzal : za.length = e.aez.length := by rw [← aw (f := Prod.fst), hza, kU]
 refine NL ?_
 refine oz ?_
 refine Ms ?_
 rintro m hm
 have hrl2 := Aq (e := e) (k := (parts e).length) (m := m)
 have hdl2 := Ar (e := e) (k := (parts e).length) (m := m)
 refine cn ?_
 refine sc ?_ ?_ <;> intro hbd
 have hltm : m < e.aez.length := by omega
 have hltz : m < za.length := by omega
 have hm2 : m < (bW e (parts e).length).length := by rw [kU]; exact hltm
 have hm1 : m < (cR e (parts e).length).length := by rw [ud]; exact hltm
 have hz3 : za[m].1 = (bW e (parts e).length)[m] := by simp [← hza]
 have hab := Au hoe hltm hm2
 rw [← hz3] at hab
 refine dh ?_
 refine sO [(1, _), (2, _), (3, _), (4, _), (5, _), (6, _), (14, _), (57, _), (58, _), (59, _), (145, _), (146, _), (147, _), (6200, _)] [(1, (32, [sl (.lo _) _, val _, val _, sl (.lo _) _, sl (.lo _) _, sl (.lo _) _, sl (.lo _) _, val _])), (2, (32, [sl _ _, val _, val _, sl _ _, sl _ _, sl _ _, sl _ _, val _])), (4, (32, [sl _ _, val _, val _, sl _ _, sl _ _, sl _ _, sl _ _, val _])), (6, (70, [val _, val _, sl _ _, sl _ _, sl _ _]))] ?_
 exact KH
 have hend2 : m = e.aez.length := by omega
 subst hend2
 refine er ?_
 refine sO [(1, _), (2, _), (3, _), (4, _), (5, _), (6, _), (14, _), (57, _), (58, _), (59, _), (145, _), (146, _), (147, _), (6200, _)] [(1, (32, [sl (.lo _) _, val _, val _, sl (.lo _) _, sl (.lo _) _, sl (.lo _) _, sl (.lo _) _, val _])), (2, (32, [sl _ _, val _, val _, sl _ _, sl _ _, sl _ _, sl _ _, val _])), (4, (32, [sl _ _, val _, val _, sl _ _, sl _ _, sl _ _, sl _ _, val _])), (6, (70, [val _, val _, sl _ _, sl _ _, sl _ _]))] ?_
 exact KJ
end Go.Proofs.YtmekkgdboplbjaaGreat
