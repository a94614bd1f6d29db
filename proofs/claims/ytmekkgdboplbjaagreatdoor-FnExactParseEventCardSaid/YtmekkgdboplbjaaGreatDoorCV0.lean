/- What functions of the program compute. No condition. -/
import Derived.Test.YtmekkgdboplbjaaGreatDoorCP0
import Derived.Test.YtmekkgdboplbjaaGreatDoorCU0
set_option linter.all false
namespace Go.Proofs.YtmekkgdboplbjaaGreatDoor
open Go Go.RowKit M PV Tryz
set_option maxRecDepth 10000
attribute [local irreducible] PV.Lcl PV.LclR RV.Lcl
def rL {q : FY}  : bI prog gl 105 [(true, [val (vI q.Id), val (vI q.Gc), sl .v (q.FZ.map aV), sl .v (q.Out.map ap)])] (ar [(false, [val (.string (B (bo q)))])]) := by
 refine ek (rs := [(false, [val (.string (B (bo q)))])]) func105 rfl (nl rfl) (by exact lq) ?_
 intro h0 w0 Fz0
 refine sn 0 2 fun hl0_2 => ?_
 refine sn 0 3 fun hl0_3 => ?_
 refine jd ?_
 refine nD ?_
 refine rA ?_ (x := lD [val _, val _, sl .v _, sl .v _] du)
 refine rA ?_ (x := cL [(true, [val _, val _, sl _ _, sl _ _])] [(true, [val _, val _, sl .v _, sl .v _])] nV (hs := by exact oB))
 refine rA ?_ (x := nT)
 refine sc ?_ ?_ <;> intro hba
 have hok : aW q = false := by simpa using hba
 refine sS [1, 2, 7000] [1] ?_
 exact uo
 have hok : aW q = true := by simpa using hba
 obtain ⟨a1, a2, a3, a4, a5, a6, a7, a8⟩ := jD hok
 have hil : (itoa q.Id).length ≤ 21 := bl (by unfold aq; omega)
 have hitl : (itoa q.Gc).length ≤ 21 := bl (by unfold aq; omega)
 have hll := iE a7
 refine cg ?_
 refine sP [1, 2, 7000] [1] ?_
 refine ce ck ?_
 refine dA 0 ?_ (x := lF ky)
 refine qc ?_
 refine dA 7 ?_ (x := bX)
 refine dA 0 ?_ (x := lF gQ)
 refine dA 16 ?_ (x := lD [val _] aA)
 refine dA 55 ?_ (x := gL [(false, [val _])] [(false, [val _])] fE (hs := by exact (fG (by unfold aq; omega))))
 refine dA 119 ?_ (x := bX)
 refine dA 255 ?_ (x := fh (qs := [(false, [val _]), (false, [val _])]) (by decide) bp iI (by decide) rfl rfl rfl rfl rfl (by exact nl rfl) (by exact (aI (by exact tI) (aI (by exact tI) tI))) rfl)
 refine dA 511 ?_ (x := tA)
 refine aT ?_
 refine sS [1, 2, 3, 7000] [1] ?_
 refine nF ?_
 refine im ?_
 refine sP [1, 2, 3, 19, 20, 21, 7000] [1] ?_
 refine sL [1, 2, 19, 20, 7000] [1] (fun k : Nat => k ≤ q.FZ.length) (fun k : Nat => [(3, RV.slc hY ((cP q k).map et)), (21, RV.int (k : Int))]) (fun k : Nat => []) (fun k : Nat => q.FZ.length - k) 0 (by omega) (by exact aI (by exact rfl) (aI (by exact rfl) tI)) (by exact tI) ?_
 rintro k hk
 refine it ?_
 refine sc ?_ ?_ <;> intro hbb
 have hlt : k < q.FZ.length := by omega
 have hck := a8 k hlt
 have hf1 : (itoa q.FZ[k].Field).length ≤ 21 := bl (by unfold aq; omega)
 have hf2 : (itoa q.FZ[k].Low).length ≤ 21 := bl (by unfold aq; omega)
 have hf3 : (itoa q.FZ[k].High).length ≤ 21 := bl (by unfold aq; omega)
 have hjl := lY hok k
 have hql := lX (q := q) k
 rw [bQ] at hql
 refine dg ?_
 refine sT [1, 2, 3, 19, 20, 21, 7000] [1] ?_
 refine vV ?_
 refine rX ?_ (x := (dZ (by decide) iA nY))
 refine rA ?_ (x := bv (ag := true) (vs := [val _, val _, val _]) jy (by exact tI) (by exact rfl) (by exact nl rfl))
 refine sO [(1, _), (2, _), (3, _), (5, _), (19, _), (20, _), (21, _), (7000, _)] [(1, _), (5, (65, [val _, val _, val _]))] ?_
 refine ce ck ?_
 refine dA 0 ?_ (x := tM)
 refine dA 0 ?_ (x := lF eZ)
 refine dA 2 ?_ (x := lD [val _] aA)
 refine dA 6 ?_ (x := gL [(false, [val _])] [(false, [val _])] fE (hs := by exact (fG (by unfold aq; omega))))
 refine dA 14 ?_ (x := bX)
 refine dA 0 ?_ (x := lF gU)
 refine dA 32 ?_ (x := lD [val _] aA)
 refine dA 110 ?_ (x := gL [(false, [val _])] [(false, [val _])] fE (hs := by exact (fG (by unfold aq; omega))))
 refine dA 238 ?_ (x := bX)
 refine dA 0 ?_ (x := lF go)
 refine dA 512 ?_ (x := lD [val _] aA)
 refine dA 1774 ?_ (x := gL [(false, [val _])] [(false, [val _])] fE (hs := by exact (fG (by unfold aq; omega))))
 refine dA 4078 ?_ (x := bX)
 refine dA 8190 ?_ (x := fh (qs := [(false, [val _]), (false, [val _])]) (by decide) bp iI (by decide) rfl rfl rfl rfl rfl (by exact nl rfl) (by exact (aI (by exact tI) (aI (by exact tI) tI))) rfl)
 refine dA 16383 ?_ (x := iM (by decide) bp iI rfl rfl (by decide) rfl (by simp only [bc, aX, List.length_cons, List.length_nil]; omega) (by simp only [bc, aX, List.length_cons, List.length_nil]; omega))
 refine dA 32767 ?_ (x := tA)
 refine sG [1, 2, 3, 5, 19, 20, 21, 7000] [1, 5] ?_
 refine ip ?_
 refine nx (k + 1) (by omega) (e := (by exact aI (by exact hZ (by rw [xc hlt, dJ]; rfl)) (aI (by exact rfl) tI)))
 have hend : k = q.FZ.length := by omega
 subst hend
 have hjl := lY hok q.FZ.length
 have hql := lX (q := q) q.FZ.length
 rw [bQ] at hql
 have hfe := congrArg List.length (qS (q := q) q.FZ.length)
 simp only [aX, List.length_cons, List.length_nil] at hfe
 refine cU ?_
 refine sT [1, 2, 3, 19, 20, 21, 7000] [1] ?_
 refine rA ?_ (x := tM)
 refine jj ?_
 refine rA ?_ (x := gL [(false, [sl _ _])] [(false, [sl .v _])] yc (hs := by exact (yj a7 (by omega))))
 refine rA ?_ (x := fh (qs := [(false, [val _]), (false, [val _])]) (by decide) bp iI (by decide) rfl rfl rfl rfl rfl (by exact nl rfl) (by exact (aI (aC rfl) (aI (by exact tI) tI))) rfl)
 refine rA ?_ (x := iM (by decide) bp iI rfl rfl (by decide) rfl (by simp only [bc, aX, List.length_cons, List.length_nil]; omega) (by simp only [bc, aX, List.length_cons, List.length_nil]; omega))
 refine rA ?_ (x := sC (qs := [(false, [sl _ _]), (false, [val _])]) (as_ := [(false, [sl .v _]), (false, [val _])]) (by decide) ya (by exact (aI (by exact tI) (aI (aC rfl) tI))) (by exact (aI (aI rfl (ao.cons (PV.to_eqv (ds := (cP q q.FZ.length ++ [[111, 117, 116], bD q.Out]).map et) (by rw [dJ]; exact rfl)) ao.nil)) (aI (aI rfl (aO ao.nil)) tI))) (by exact (yi (xs := cP q q.FZ.length ++ [[111, 117, 116], bD q.Out]) (sep := [32]) (by rw [aX]; simp only [List.length_cons, List.length_nil]; omega) (by omega))))
 refine cj ?_
 exact (aI (by refine dq ?_; exact dE (by unfold bo; rw [if_pos hok])) tI)
def yt {q : FY}  : aD prog 33 [(true, [val (vI q.Id), val (vI q.Gc), sl .v (q.FZ.map aV), sl .v (q.Out.map ap)])] (ar [(false, [val (.string (B (bo q)))])]) := by
 refine sF func33 fun h0 w0 Fz0 => ?_
 refine sn 0 2 fun hl0_2 => ?_
 refine sn 0 3 fun hl0_3 => ?_
 refine jd ?_
 refine fV ?_
 refine rA ?_ (x := lD [val _, val _, sl .v _, sl .v _] du)
 refine rA ?_ (x := cL [(true, [val _, val _, sl _ _, sl _ _])] [(true, [val _, val _, sl .v _, sl .v _])] wU (hs := by exact yp))
 refine rA ?_ (x := nT)
 refine sc ?_ ?_ <;> intro hba
 have hok : aW q = false := by simpa using hba
 refine sS [1, 2] [1] ?_
 exact uo
 have hok : aW q = true := by simpa using hba
 obtain ⟨a1, a2, a3, a4, a5, a6, a7, a8⟩ := jD hok
 have hil : (itoa q.Id).length ≤ 21 := bl (by unfold aq; omega)
 have hitl : (itoa q.Gc).length ≤ 21 := bl (by unfold aq; omega)
 have hll := iE a7
 refine cg ?_
 refine sP [1, 2] [1] ?_
 refine ce ck ?_
 refine dA 0 ?_ (x := lF ky)
 refine qd ?_
 refine qG ?_
 refine dA 0 ?_ (x := lF gQ)
 refine dA 32 ?_ (x := lD [val _] aA)
 refine dA 103 ?_ (x := cL [(false, [val _])] [(false, [val _])] fF (hs := by exact (fH (by unfold aq; omega))))
 refine dA 255 ?_ (x := bX)
 refine dA 511 ?_ (x := sA)
 refine aT ?_
 refine sS [1, 2, 3] [1] ?_
 refine cH ?_
 refine sP [1, 2, 3, 4] [1] ?_
 refine sL [1, 2] [1] (fun k : Nat => k ≤ q.FZ.length) (fun k : Nat => [(3, RV.sc (.string (B (cO (cP q k) [32])))), (4, RV.int (k : Int))]) (fun k : Nat => []) (fun k : Nat => q.FZ.length - k) 0 (by omega) (by exact aI (by exact congrArg (fun z => some (RV.sc (.string (B z)))) (by simp [cP, cO, Lib.join_cons, Lib.joinTail])) (aI (by exact rfl) tI)) (by exact tI) ?_
 rintro k hk
 refine ee ?_
 refine nF ?_
 refine rA ?_ (x := cF)
 refine sc ?_ ?_ <;> intro hbb
 have hlt : k < q.FZ.length := by omega
 have hck := a8 k hlt
 have hf1 : (itoa q.FZ[k].Field).length ≤ 21 := bl (by unfold aq; omega)
 have hf2 : (itoa q.FZ[k].Low).length ≤ 21 := bl (by unfold aq; omega)
 have hf3 : (itoa q.FZ[k].High).length ≤ 21 := bl (by unfold aq; omega)
 have hjl := lY hok k
 have hql := lX (q := q) k
 rw [bQ] at hql
 refine dg ?_
 refine sQ [1, 2, 3, 4] [1] ?_
 refine ce ck ?_
 refine dA 0 ?_ (x := sM)
 refine dA 1 ?_ (x := bX)
 refine dA 0 ?_ (x := lF eu)
 refine dA 4 ?_ (x := lD [sl .v _] ew)
 refine dA 0 ?_ (x := sM)
 refine dA 28 ?_ (x := bn (by decide) cz (by exact tI) (by exact rfl) (by exact bq (by omega) rfl) (by exact rfl))
 refine dA 60 ?_ (x := gF (by decide) eZ (by exact nl rfl))
 refine dA 124 ?_ (x := lE [val _] aA)
 refine dA 252 ?_ (x := cL [(false, [val _])] [(false, [val _])] fF (hs := by exact (fH (by unfold aq; omega))))
 refine qF ?_
 refine dA 0 ?_ (x := lF eu)
 refine dA 2048 ?_ (x := lD [sl .v _] ew)
 refine dA 0 ?_ (x := sM)
 refine dA 14336 ?_ (x := bn (by decide) cz (by exact tI) (by exact rfl) (by exact bq (by omega) rfl) (by exact rfl))
 refine dA 30720 ?_ (x := gF (by decide) gU (by exact nl rfl))
 refine dA 63488 ?_ (x := lE [val _] aA)
 refine dA 129532 ?_ (x := cL [(false, [val _])] [(false, [val _])] fF (hs := by exact (fH (by unfold aq; omega))))
 refine dA 262143 ?_ (x := bX)
 refine dA 524287 ?_ (x := bX)
 refine dA 0 ?_ (x := lF eu)
 refine dA 1048576 ?_ (x := lD [sl .v _] ew)
 refine dA 0 ?_ (x := sM)
 refine dA 7340032 ?_ (x := bn (by decide) cz (by exact tI) (by exact rfl) (by exact bq (by omega) rfl) (by exact rfl))
 refine dA 15728640 ?_ (x := gF (by decide) go (by exact nl rfl))
 refine dA 32505856 ?_ (x := lE [val _] aA)
 refine dA 66320892 ?_ (x := cL [(false, [val _])] [(false, [val _])] fF (hs := by exact (fH (by unfold aq; omega))))
 refine dA 134217727 ?_ (x := bX)
 refine dA 268435455 ?_ (x := sA)
 refine sG [1, 2, 3, 4] [1] ?_
 refine cY ?_
 refine nx (k + 1) (by omega) (e := (by exact aI (by exact congrArg (fun z => some (RV.sc (.string (B z)))) (by rw [xc hlt]; unfold dW; rw [wZ xd]; simp [de])) (aI (by exact rfl) tI)))
 have hend : k = q.FZ.length := by omega
 subst hend
 have hjl := lY hok q.FZ.length
 refine cU ?_
 refine sT [1, 2, 3, 4] [1] ?_
 refine rM ?_
 refine rA ?_ (x := bX)
 refine jj ?_
 refine rA ?_ (x := cL [(false, [sl _ _])] [(false, [sl .v _])] yd (hs := by exact (yk a7 (by omega))))
 refine kk ?_
 exact (aI (by refine dq ?_; exact dE (by unfold bo; rw [if_pos hok, qS])) tI)
def yu {u : Ga}  : bI prog gl 106 [(true, [val (vI u.Kind), val (vI u.Row.Id), sl .v (u.Row.Values.map ap), val (vI u.Field), val (vI u.Value)])] (ar [(false, [val (.string (B (bJ u)))])]) := by
 refine ek (rs := [(false, [val (.string (B (bJ u)))])]) func106 rfl (nl rfl) (by exact lq) ?_
 intro h0 w0 Fz0
 refine sn 0 2 fun hl0_2 => ?_
 refine jc ?_
 refine nD ?_
 refine rA ?_ (x := lD [val _, val _, sl .v _, val _, val _] db)
 refine rA ?_ (x := cL [(true, [val _, val _, sl _ _, val _, val _])] [(true, [val _, val _, sl .v _, val _, val _])] qO (hs := by exact rJ))
 refine rA ?_ (x := nT)
 refine sc ?_ ?_ <;> intro hba
 have hok : cb u = false := by simpa using hba
 refine sS [1, 2, 7000] [1] ?_
 exact up
 have hok : cb u = true := by simpa using hba
 obtain ⟨a1, a2, a3, a4, a5, a6⟩ := qT hok
 have hrl := lW u.Row
 have h3 : (itoa u.Row.Id).length ≤ 21 := bl (by unfold aq; omega)
 have h4 : (itoa u.Field).length ≤ 21 := bl (by unfold aq; omega)
 have h5 : (itoa u.Value).length ≤ 21 := bl (by unfold aq; omega)
 refine cg ?_
 refine sS [1, 2, 7000] [1] ?_
 refine lI ?_
 refine lp ?_
 refine sc ?_ ?_ <;> intro hbb
 have k1 := hbb
 refine sS [1, 2, 7, 7000] [1] ?_
 refine jh ?_
 refine rA ?_ (x := gL [(true, [val _, sl _ _])] [(true, [val _, sl .v _])] yb (hs := by exact ym))
 exact uq
 have k1 := hbb
 refine lp ?_
 refine sc ?_ ?_ <;> intro hbc
 have k2 := hbc
 refine sS [1, 2, 7, 7000] [1] ?_
 refine jm ?_
 refine qe ?_
 exact ur
 have k2 := hbc
 refine cg ?_
 refine sP [1, 2, 7, 7000] [1] ?_
 refine ce ck ?_
 refine dA 0 ?_ (x := lF eJ)
 refine dA 1 ?_ (x := lF gk)
 refine dA 3 ?_ (x := lD [val _] aA)
 refine dA 7 ?_ (x := gL [(false, [val _])] [(false, [val _])] fE (hs := by exact (fG (by unfold aq; omega))))
 refine dA 15 ?_ (x := bX)
 refine dA 31 ?_ (x := bX)
 refine dA 0 ?_ (x := lF fz)
 refine dA 64 ?_ (x := lD [val _] aA)
 refine dA 207 ?_ (x := gL [(false, [val _])] [(false, [val _])] fE (hs := by exact (fG (by unfold aq; omega))))
 refine qF ?_
 refine dA 0 ?_ (x := lF gn)
 refine dA 2048 ?_ (x := lD [val _] aA)
 refine dA 6607 ?_ (x := gL [(false, [val _])] [(false, [val _])] fE (hs := by exact (fG (by unfold aq; omega))))
 exact ut
def yv {u : Ga}  : aD prog 107 [(true, [val (vI u.Kind), val (vI u.Row.Id), sl .v (u.Row.Values.map ap), val (vI u.Field), val (vI u.Value)])] (ar [(false, [val (.string (B (bJ u)))])]) := by
 refine sF func107 fun h0 w0 Fz0 => ?_
 refine sn 0 2 fun hl0_2 => ?_
 refine jc ?_
 refine fV ?_
 refine rA ?_ (x := lD [val _, val _, sl .v _, val _, val _] db)
 refine rA ?_ (x := cL [(true, [val _, val _, sl _ _, val _, val _])] [(true, [val _, val _, sl .v _, val _, val _])] wR (hs := by exact yq))
 refine rA ?_ (x := nT)
 refine sc ?_ ?_ <;> intro hba
 have hok : cb u = false := by simpa using hba
 refine sS [1, 2] [1] ?_
 exact up
 have hok : cb u = true := by simpa using hba
 obtain ⟨a1, a2, a3, a4, a5, a6⟩ := qT hok
 have hrl := lW u.Row
 have h3 : (itoa u.Row.Id).length ≤ 21 := bl (by unfold aq; omega)
 have h4 : (itoa u.Field).length ≤ 21 := bl (by unfold aq; omega)
 have h5 : (itoa u.Value).length ≤ 21 := bl (by unfold aq; omega)
 refine cg ?_
 refine sS [1, 2] [1] ?_
 refine lI ?_
 refine ly ?_
 refine sc ?_ ?_ <;> intro hbb
 have k1 := hbb
 refine sS [1, 2, 7] [1] ?_
 refine jh ?_
 refine rA ?_ (x := cL [(true, [val _, sl _ _])] [(true, [val _, sl .v _])] xX (hs := by exact yn))
 exact uq
 have k1 := hbb
 refine ly ?_
 refine sc ?_ ?_ <;> intro hbc
 have k2 := hbc
 refine sS [1, 2, 7] [1] ?_
 refine jm ?_
 refine qf ?_
 exact ur
 have k2 := hbc
 refine cg ?_
 refine sP [1, 2, 7] [1] ?_
 refine ce ck ?_
 refine dA 0 ?_ (x := lF eJ)
 refine dA 1 ?_ (x := lF gk)
 refine dA 3 ?_ (x := lD [val _] aA)
 refine dA 7 ?_ (x := cL [(false, [val _])] [(false, [val _])] fF (hs := by exact (fH (by unfold aq; omega))))
 refine dA 15 ?_ (x := bX)
 refine dA 31 ?_ (x := bX)
 refine dA 0 ?_ (x := lF fz)
 refine dA 64 ?_ (x := lD [val _] aA)
 refine dA 207 ?_ (x := cL [(false, [val _])] [(false, [val _])] fF (hs := by exact (fH (by unfold aq; omega))))
 refine qF ?_
 refine dA 0 ?_ (x := lF gn)
 refine dA 2048 ?_ (x := lD [val _] aA)
 refine dA 6607 ?_ (x := cL [(false, [val _])] [(false, [val _])] fF (hs := by exact (fH (by unfold aq; omega))))
 exact ut
def EE {x : bM}  : bI prog gl 38 [(true, [val (vI x.Kind), val (vI x.FY.Id), val (vI x.FY.Gc), sl .v (x.FY.FZ.map aV), sl .v (x.FY.Out.map ap), val (vI x.Limit), val (vI x.Id), val (vI x.Ga.Kind), val (vI x.Ga.Row.Id), sl .v (x.Ga.Row.Values.map ap), val (vI x.Ga.Field), val (vI x.Ga.Value), val (vI x.Steps)])] (ar [(false, [val (.string (B (bW x)))])]) := by
 refine ek (rs := [(false, [val (.string (B (bW x)))])]) func38 rfl (nl rfl) (by exact lq) ?_
 intro h0 w0 Fz0
 refine sn 0 3 fun hl0_3 => ?_
 refine sn 0 4 fun hl0_4 => ?_
 refine sn 0 9 fun hl0_9 => ?_
 refine ka ?_
 refine nD ?_
 refine rA ?_ (x := lD [val _, val _, val _, sl .v _, sl .v _, val _, val _, val _, val _, sl .v _, val _, val _, val _] dw)
 refine rA ?_ (x := cL [(true, [val _, val _, val _, sl _ _, sl _ _, val _, val _, val _, val _, sl _ _, val _, val _, val _])] [(true, [val _, val _, val _, sl .v _, sl .v _, val _, val _, val _, val _, sl .v _, val _, val _, val _])] xZ (hs := by exact yr))
 refine rA ?_ (x := nT)
 refine sc ?_ ?_ <;> intro hba
 have hok : bV x = false := by simpa using hba
 refine sS [1, 2, 7000] [1] ?_
 exact uu
 have hok : bV x = true := by simpa using hba
 obtain ⟨a1, a2, a3, a4, a5, a6⟩ := xf hok
 have hql := nZ x.FY
 have h3 : (itoa x.Limit).length ≤ 21 := bl (by unfold aq; omega)
 have h4 : (itoa x.Id).length ≤ 21 := bl (by unfold aq; omega)
 have h5 : (itoa x.Steps).length ≤ 21 := bl (by unfold aq; omega)
 refine cg ?_
 refine sS [1, 2, 7000] [1] ?_
 refine lJ ?_
 refine lp ?_
 refine sc ?_ ?_ <;> intro hbb
 have k1 := hbb
 refine aT ?_
 refine sP [1, 2, 7, 7000] [1] ?_
 refine ce ck ?_
 refine dA 0 ?_ (x := lF gR)
 refine qc ?_
 refine qG ?_
 refine wx ?_
 refine dA 103 ?_ (x := gL [(true, [val _, val _, sl _ _, sl _ _])] [(true, [val _, val _, sl .v _, sl .v _])] rt (hs := by exact rL))
 exact uv
 have k1 := hbb
 refine lp ?_
 refine sc ?_ ?_ <;> intro hbc
 have k2 := hbc
 refine sS [1, 2, 7, 7000] [1] ?_
 refine rA ?_ (x := lF eY)
 refine qe ?_
 exact uw
 have k2 := hbc
 refine lp ?_
 refine sc ?_ ?_ <;> intro hbd
 have k3 := hbd
 refine sS [1, 2, 7, 7000] [1] ?_
 refine ii ?_
 refine rA ?_ (x := gL [(true, [val _, val _, sl _ _, val _, val _])] [(true, [val _, val _, sl .v _, val _, val _])] xV (hs := by exact yu))
 exact ux
 have k3 := hbd
 refine aK ?_
 refine sS [1, 2, 7, 7000] [1] ?_
 refine rA ?_ (x := lF gS)
 refine qe ?_
 exact uy
def rN {x : bM}  : aD prog 39 [(true, [val (vI x.Kind), val (vI x.FY.Id), val (vI x.FY.Gc), sl .v (x.FY.FZ.map aV), sl .v (x.FY.Out.map ap), val (vI x.Limit), val (vI x.Id), val (vI x.Ga.Kind), val (vI x.Ga.Row.Id), sl .v (x.Ga.Row.Values.map ap), val (vI x.Ga.Field), val (vI x.Ga.Value), val (vI x.Steps)])] (ar [(false, [val (.string (B (bW x)))])]) := by
 refine sF func39 fun h0 w0 Fz0 => ?_
 refine sn 0 3 fun hl0_3 => ?_
 refine sn 0 4 fun hl0_4 => ?_
 refine sn 0 9 fun hl0_9 => ?_
 refine ka ?_
 refine fV ?_
 refine rA ?_ (x := lD [val _, val _, val _, sl .v _, sl .v _, val _, val _, val _, val _, sl .v _, val _, val _, val _] dw)
 refine rA ?_ (x := cL [(true, [val _, val _, val _, sl _ _, sl _ _, val _, val _, val _, val _, sl _ _, val _, val _, val _])] [(true, [val _, val _, val _, sl .v _, sl .v _, val _, val _, val _, val _, sl .v _, val _, val _, val _])] DE (hs := by exact ED))
 refine rA ?_ (x := nT)
 refine sc ?_ ?_ <;> intro hba
 have hok : bV x = false := by simpa using hba
 refine sS [1, 2] [1] ?_
 exact uu
 have hok : bV x = true := by simpa using hba
 obtain ⟨a1, a2, a3, a4, a5, a6⟩ := xf hok
 have hql := nZ x.FY
 have h3 : (itoa x.Limit).length ≤ 21 := bl (by unfold aq; omega)
 have h4 : (itoa x.Id).length ≤ 21 := bl (by unfold aq; omega)
 have h5 : (itoa x.Steps).length ≤ 21 := bl (by unfold aq; omega)
 refine cg ?_
 refine sS [1, 2] [1] ?_
 refine lJ ?_
 refine ly ?_
 refine sc ?_ ?_ <;> intro hbb
 have k1 := hbb
 refine aT ?_
 refine sP [1, 2, 7] [1] ?_
 refine ce ck ?_
 refine dA 0 ?_ (x := lF gR)
 refine qd ?_
 refine qG ?_
 refine wx ?_
 refine dA 103 ?_ (x := cL [(true, [val _, val _, sl _ _, sl _ _])] [(true, [val _, val _, sl .v _, sl .v _])] xY (hs := by exact yt))
 exact uv
 have k1 := hbb
 refine ly ?_
 refine sc ?_ ?_ <;> intro hbc
 have k2 := hbc
 refine sS [1, 2, 7] [1] ?_
 refine rA ?_ (x := lF eY)
 refine qf ?_
 exact uw
 have k2 := hbc
 refine ly ?_
 refine sc ?_ ?_ <;> intro hbd
 have k3 := hbd
 refine sS [1, 2, 7] [1] ?_
 refine ii ?_
 refine rA ?_ (x := cL [(true, [val _, val _, sl _ _, val _, val _])] [(true, [val _, val _, sl .v _, val _, val _])] xW (hs := by exact yv))
 exact ux
 have k3 := hbd
 refine aK ?_
 refine sS [1, 2, 7] [1] ?_
 refine rA ?_ (x := lF gS)
 refine qf ?_
 exact uy
end Go.Proofs.YtmekkgdboplbjaaGreatDoor
