/- What functions of the program compute. No condition. -/
import Derived.Test.YtmekkgdboplbjaaGreatDoorCA1
set_option linter.all false
namespace Go.Proofs.YtmekkgdboplbjaaGreatDoor
open Go Go.RowKit M PV Tryz
set_option maxRecDepth 10000
attribute [local irreducible] PV.Lcl PV.LclR RV.Lcl
set_option maxHeartbeats 8000000
attribute [local irreducible] ak gn
def Xx : dL prog 116 = some [(0, 1), (1, 1), (2, 1), (3, 1)] := by kernel_rfl
def Xy : dL prog 149 = some [(0, 1), (1, 1), (2, 1), (3, 1), (4, 1)] := by kernel_rfl
def Xz : dL prog 65 = some [(0, 1), (1, 1), (2, 1)] := by kernel_rfl
def XA {c : au}  : fa prog 78 176 (ce .v c) (ce .v (fH c).2) [] (aF [(true, [val (vI (fH c).1.Id), val (vI (fH c).1.ZK), sl aP ((fH c).1.ZH.map dj), sl ae ((fH c).1.Out.map an)])]) := by
 refine fO (rs := [(true, [val (vI (fH c).1.Id), val (vI (fH c).1.ZK), sl aP ((fH c).1.ZH.map dj), sl ae ((fH c).1.Out.map an)])]) func78 rfl (nl rfl) (nl rfl) ?_
 intro g_ h0 w0 Fz0
 have hqw : eM (gS (ak c 9).2 (ak c 9).1).1 ≤ 6 := MG c
 have hqw2 : (gS (ak c 9).2 (ak c 9).1).1.ZH.length + (gS (ak c 9).2 (ak c 9).1).1.Out.length ≤ 12 := by simp only [eM, ry, dP, bh] at hqw; omega
 refine sR ?_
 refine rX ?_ (x := (db (by decide) lS rC))
 refine sT [0, 2, 5000] [0, 2] ?_
 refine rA ?_ (x := cM Cp.ptr)
 refine vv ?_
 refine rA ?_ (x := bR (bx := 0) (qs := [(false, [val _])]) (as_ := [(false, [val _])]) (by decide) KU rfl (by exact (aI (by exact tI) tI)) (by exact (aI (aI rfl (aq ao.nil)) tI)) (by exact (ab.cons (bor_sl _) (ab.cons (bor_val _) (ab.cons (bor_val _) ab.nil)))) (by exact (bV (ab.cons (bor_val _) ab.nil) bH)) (by exact (Lv (fun es => bor_sl es))))
 refine vJ ?_
 refine dO ?_
 refine sO [(0, _), (2, _), (3, _), (5000, _)] [(0, _), (2, _), (3, (25, [val _, val _, sl _ _, sl _ _]))] ?_
 refine bi ?_
 refine vv ?_
 refine fM ?_
 refine pT ?_
 refine sc (fun hba => ?_) (fun hba => ?_)
 have hr := Xd (c := c) hba
 refine Ap ?_
 refine rA ?_ (x := bR (bx := 0) (qs := [(false, [sl _ _])]) (as_ := [(false, [sl .v _])]) (by decide) jh rfl (by exact (aI (by exact tI) tI)) (by exact (aI (aI rfl (aA ao.nil)) tI)) (by exact (ab.cons (bor_sl _) (ab.cons (bor_val _) (ab.cons (bor_val _) ab.nil)))) (by exact (bV (ab.cons (bor_sl _) ab.nil) bH)) (by exact (jm (l := [-1, 23, 24]) (fun es => bor_sl es) (by decide) (by decide))))
 refine rA ?_ (x := lF iB)
 exact Gv
 have h0_ := hba
 refine pT ?_
 refine sc (fun hbb => ?_) (fun hbb => ?_)
 have hr := Xe (c := c) h0_ hbb
 refine Ap ?_
 refine rA ?_ (x := bR (bx := 0) (qs := [(false, [sl _ _])]) (as_ := [(false, [sl .v _])]) (by decide) jh rfl (by exact (aI (by exact tI) tI)) (by exact (aI (aI rfl (aA ao.nil)) tI)) (by exact (ab.cons (bor_sl _) (ab.cons (bor_val _) (ab.cons (bor_val _) ab.nil)))) (by exact (bV (ab.cons (bor_sl _) ab.nil) bH)) (by exact (jm (l := [-1, 3, 4]) (fun es => bor_sl es) (by decide) (by decide))))
 refine rA ?_ (x := lF tT)
 exact Gv
 have h1_ := hbb
 refine pT ?_
 refine sc (fun hbc => ?_) (fun hbc => ?_)
 have hr := Xf (c := c) h0_ h1_ hbc
 refine sP [0, 2, 3, 9, 5000] [0, 2, 3] ?_
 refine Av ?_
 refine dA 1 ?_ (x := dH (ms := [sl _ _]) (qs := [sl .v _]) (by decide) jc (fun _ => rfl) (by exact nl rfl) (by exact rfl) (by exact (aA ao.nil)) (by exact (ab.cons (bor_sl _) ab.nil)))
 refine dA 0 ?_ (x := cM Cp.ptr)
 refine dA 4 ?_ (x := bR (bx := 0) (qs := [(false, [val _])]) (as_ := [(false, [val _])]) (by decide) jV rfl (by exact (aI (aJ rfl) tI)) (by exact (aI (aI rfl (aq ao.nil)) tI)) (by exact (ab.cons (bor_sl _) (ab.cons (bor_val _) (ab.cons (bor_val _) ab.nil)))) (by exact (bV (ab.cons (bor_val _) ab.nil) bH)) (by exact (jZ (fun es => bor_sl es) (by omega))))
 refine HR ?_
 refine dA 60 ?_ (x := bR (bx := 0) (qs := [(false, [sl _ _])]) (as_ := [(false, [sl .v _])]) (by decide) jh rfl (by exact (aI (by exact tI) tI)) (by exact (aI (aI rfl (aA ao.nil)) tI)) (by exact (ab.cons (bor_sl _) (ab.cons (bor_val _) (ab.cons (bor_val _) ab.nil)))) (by exact (bV (ab.cons (bor_sl _) ab.nil) bH)) (by exact (jm (l := [2, 3, 99, 100]) (fun es => bor_sl es) (by decide) (by decide))))
 refine dA 124 ?_ (x := dM (qs := [(false, [val _]), (false, [val _]), (false, [val _])]) (cs := [val _, val _, val _]) (by decide) nI AO Xz (by exact rfl) (by exact (aI (by exact tI) (aI (aJ rfl) (aI (by exact tI) tI)))) rfl (by exact rfl))
 refine dA 252 ?_ (x := bm (qs := [(true, [val _, val _, val _])]) (by decide) gP nI (by decide) rfl rfl rfl rfl rfl (by exact nl rfl) (by exact (aI (by exact tI) tI)) rfl)
 refine dA 511 ?_ (x := dy (by decide) gP nI rfl rfl (by decide) rfl (by simp only [am, aD, List.length_cons, List.length_nil]; omega) (by simp only [am, aD, List.length_cons, List.length_nil]; omega))
 refine dA 1023 ?_ (x := lF kE)
 refine dA 2047 ?_ (x := bf (ag := false) (vs := [sl _ _]) jc (by exact tI) (by exact rfl) (by exact nl rfl))
 exact zb
 have h2_ := hbc
 refine pT ?_
 refine sc (fun hbd => ?_) (fun hbd => ?_)
 have hr := Xg (c := c) h0_ h1_ h2_ hbd
 refine sP [0, 2, 3, 9, 5000] [0, 2, 3] ?_
 refine cv cd ?_
 refine dA 0 ?_ (x := lF oT)
 refine dA 1 ?_ (x := dH (ms := [sl _ _]) (qs := [sl .v _]) (by decide) bz (fun _ => rfl) (by exact nl rfl) (by exact rfl) (by exact (aA ao.nil)) (by exact (ab.cons (bor_sl _) ab.nil)))
 refine zz ?_
 refine dA 12 ?_ (x := bR (bx := 0) (qs := [(false, [sl _ _])]) (as_ := [(false, [sl .v _])]) (by decide) jh rfl (by exact (aI (by exact tI) tI)) (by exact (aI (aI rfl (aA ao.nil)) tI)) (by exact (ab.cons (bor_sl _) (ab.cons (bor_val _) (ab.cons (bor_val _) ab.nil)))) (by exact (bV (ab.cons (bor_sl _) ab.nil) bH)) (by exact (jm (l := [-1, 0, 3]) (fun es => bor_sl es) (by decide) (by decide))))
 refine dA 28 ?_ (x := bm (qs := [(false, [val _])]) (by decide) aW bX (by decide) rfl rfl rfl rfl rfl (by exact nl rfl) (by exact (aI (by exact tI) tI)) rfl)
 refine dA 63 ?_ (x := dy (by decide) aW bX rfl rfl (by decide) rfl (by simp only [am, aD, List.length_cons, List.length_nil]; omega) (by simp only [am, aD, List.length_cons, List.length_nil]; omega))
 refine dA 127 ?_ (x := lF oT)
 refine dA 255 ?_ (x := bf (ag := false) (vs := [sl _ _]) bz (by exact tI) (by exact rfl) (by exact nl rfl))
 exact zb
 have hr := Xh (c := c) h0_ h1_ h2_ hbd
 refine bc ?_
 refine sS [0, 2, 3, 9, 5000] [0, 2, 3] ?_
 exact Gu
def XB {c : au}  : fa prog 169 176 (ce .v c) (ce .v (fI c).2) [] (aF [(true, [val (vI (fI c).1.Segment), val (vI (fI c).1.Base), sl .v ((fI c).1.Ids.map an), sl .v ((fI c).1.ZL.map an), sl .v ((fI c).1.Rows.map an)])]) := by
 refine fO (rs := [(true, [val (vI (fI c).1.Segment), val (vI (fI c).1.Base), sl .v ((fI c).1.Ids.map an), sl .v ((fI c).1.ZL.map an), sl .v ((fI c).1.Rows.map an)])]) func169 rfl (nl rfl) (nl rfl) ?_
 intro g_ h0 w0 Fz0
 refine uZ (fun L => [(0, RV.ptr 0 0), (5000, RV.phi 0 g_)]) (fun L => [(0, (176, [sl (.lo L) (c.b.map jL), val (vI (c.i : Int)), val (vI c.h)]))]) (fun L => by exact (it.cons hO.ptr (it.cons hO.phi tI))) (fun L => by exact (kY.cons (aj.cons (bn (fun _ => nl rfl) (fun _ => (aj.cons aC aj.nil))) (aj.cons aC (aj.cons aC aj.nil))) (ab.cons (bor_lo _ _) (ab.cons (bor_val _) (ab.cons (bor_val _) ab.nil))) tI)) fun Bl w0 Fz0 => ?_
 have hck := MK c
 have hbb0 := dh (kR c).2 5
 have hbb1 := di (kR c).2 (n := 5) (by decide)
 have hbb2 : (dk c).1 = (ak (kR c).2 5).1 := rfl
 have hcn1 := dh (mi c).2 4
 have hcn2 := di (mi c).2 (n := 4) (by decide)
 have hcn : (sb c).1 = (ak (ak (ak (ak c 4).2 5).2 3).2 4).1 := rfl
 have hcn3 : (sb c).1 = (ak (mi c).2 4).1 := rfl
 refine sR ?_
 refine rX ?_ (x := (db (by decide) jY qy))
 refine ba ?_
 refine sO [(0, _), (2, _), (5000, _)] [(0, (176, [sl (.lo _) _, val _, val _])), (2, (149, [val _, val _, sl _ _, sl _ _, sl _ _]))] ?_
 refine bi ?_
 refine mw ?_
 refine mw ?_
 refine rA ?_ (x := dM (qs := [(false, [val _]), (false, [val _])]) (cs := [val _, val _, sl _ _, sl _ _, sl _ _]) (by decide) jY qy Xy (by exact rfl) (by exact (aI (by exact tI) (aI (by exact tI) tI))) rfl (by exact rfl))
 refine vF ?_
 refine ba ?_
 refine sO [(0, _), (2, _), (3, _), (5000, _)] [(0, _), (2, _), (3, (149, [val _, val _, sl _ _, sl _ _, sl _ _]))] ?_
 refine bi ?_
 refine mw ?_
 refine gA ?_
 refine sS [0, 2, 3, 4, 5000] [0, 2, 3] ?_
 refine mw ?_
 refine kr ?_
 refine fM ?_
 refine sP [0, 2, 3, 4, 5, 5000] [0, 2, 3] ?_
 refine sL [0, 2, 3, 5000] [2] (fun k : Nat => k ≤ jv c) (fun k : Nat => [(4, RV.int (dl (dk c).1 (dw c) k).id), (5, RV.int ((jv c : Int) - (k : Int)))]) (fun k : Nat => [(0, (176, ce (.lo Bl) (dl (dk c).1 (dw c) k).c)), (3, (149, [val (vI (iU c (dl (dk c).1 (dw c) k)).Segment), val (vI (iU c (dl (dk c).1 (dw c) k)).Base), sl ae ((iU c (dl (dk c).1 (dw c) k)).Ids.map an), sl ae ((iU c (dl (dk c).1 (dw c) k)).ZL.map an), sl ae ((iU c (dl (dk c).1 (dw c) k)).Rows.map an)]))]) (fun k : Nat => jv c - k) 0 (by omega) (by exact aI (by exact rfl) (aI (by exact bA (by omega)) tI)) (by exact aI (by exact rfl) (aI (by exact rfl) tI)) ?_
 rintro k hk
 have hcl := xJ (dk c).1 c k
 have hci := ML (dk c).1 c k
 have hbx : (iU c (dl (dk c).1 (dw c) k)).Base = (dk c).1 := rfl
 have hx1 : (iU c (dl (dk c).1 (dw c) k)).Ids.length = k := hcl.1
 have hx2 : (iU c (dl (dk c).1 (dw c) k)).ZL.length = k := hcl.2.1
 have hx3 : (iU c (dl (dk c).1 (dw c) k)).Rows.length = k := hcl.2.2
 have hj1 := dh (ak (ak (dl (dk c).1 (dw c) k).c 4).2 ((iU c (dl (dk c).1 (dw c) k)).Base + 1)).2 2
 have hj2 := di (ak (ak (dl (dk c).1 (dw c) k).c 4).2 ((iU c (dl (dk c).1 (dw c) k)).Base + 1)).2 (n := 2) (by decide)
 refine ri ?_
 refine sc (fun hba => ?_) (fun hba => ?_)
 have hlt : k < jv c := by omega
 refine er ?_
 refine Ik ?_
 refine rA ?_ (x := lF rU)
 refine sX ?_
 refine qT ?_
 refine rA ?_ (x := lF rU)
 refine zQ ?_
 refine sO [(0, _), (2, _), (3, _), (4, _), (5, _), (5000, _)] [(0, _), (2, _), (3, (149, [val _, val _, sl _ _, sl _ _, sl _ _]))] ?_
 refine cv cd ?_
 refine Ie ?_
 refine dA 0 ?_ (x := cM Cp.ptr)
 refine dA 4 ?_ (x := bR (bx := 0) (qs := [(false, [val _])]) (as_ := [(false, [val _])]) (by decide) jV rfl (by exact (aI (aJ rfl) tI)) (by exact (aI (aI rfl (aq ao.nil)) tI)) (by exact (ab.cons (bor_lo _ _) (ab.cons (bor_val _) (ab.cons (bor_val _) ab.nil)))) (by exact (bV (ab.cons (bor_val _) ab.nil) bH)) (by exact (jZ (fun es => bor_lo _ es) (by omega))))
 refine dA 12 ?_ (x := bm (qs := [(false, [val _])]) (by decide) aW bX (by decide) rfl rfl rfl rfl rfl (by exact nl rfl) (by exact (aI (by exact tI) tI)) rfl)
 refine dA 31 ?_ (x := dy (by decide) aW bX rfl rfl (by decide) rfl (by simp only [am, aD, List.length_cons, List.length_nil]; omega) (by simp only [am, aD, List.length_cons, List.length_nil]; omega))
 refine dA 63 ?_ (x := lF oa)
 refine dA 127 ?_ (x := bf (ag := false) (vs := [sl _ _]) bz (by exact tI) (by exact rfl) (by exact nl rfl))
 refine ba ?_
 refine sO [(0, _), (2, _), (3, _), (4, _), (5, _), (5000, _)] [(0, _), (2, _), (3, (149, [val _, val _, sl _ _, sl _ _, sl _ _]))] ?_
 refine PD (d := 3) (A := [val _, val _, sl _ _, sl _ _]) (by exact rfl) fun u2 => ?_
 refine sO [(0, _), (2, _), (3, _), (4, _), (5, _), (5000, _)] [(0, _), (2, _), (3, (149, [val _, val _, sl _ _, sl _ _, nv _ (sl _ _)]))] ?_
 refine cv cd ?_
 refine dA 0 ?_ (x := lF iO)
 refine dA 1 ?_ (x := gH (qs := [nv _ (sl .v _)]) (by decide) bz (fun _ => rfl) (by exact nl rfl) (by exact (ao.cons (PV.nv_nv oC) ao.nil)) (by exact (ab.cons (bor_nv (bor_sl _)) ab.nil)))
 refine dA 0 ?_ (x := cM Cp.ptr)
 refine dA 0 ?_ (x := lF nZ)
 refine dA 8 ?_ (x := lD [val _] aw)
 refine dA 24 ?_ (x := iX)
 refine dA 60 ?_ (x := bR (bx := 0) (qs := [(false, [val _])]) (as_ := [(false, [val _])]) (by decide) jV rfl (by exact (aI (by exact tI) tI)) (by exact (aI (aI rfl (aq ao.nil)) tI)) (by exact (ab.cons (bor_lo _ _) (ab.cons (bor_val _) (ab.cons (bor_val _) ab.nil)))) (by exact (bV (ab.cons (bor_val _) ab.nil) bH)) (by exact (jZ (fun es => bor_lo _ es) (by omega))))
 refine dA 124 ?_ (x := bm (qs := [(false, [val _])]) (by decide) aW bX (by decide) rfl rfl rfl rfl rfl (by exact nl rfl) (by exact (aI (by exact tI) tI)) rfl)
 refine dA 255 ?_ (x := PF (b := 3) [val _, val _, sl _ _, sl _ _] (by exact rfl) (by decide) (by decide) aW bX rfl rfl (by decide) rfl (by simp only [am, aD, List.length_cons, List.length_nil]; omega) (by simp only [am, aD, List.length_cons, List.length_nil]; omega))
 refine dA 511 ?_ (x := lF iO)
 refine dA 1023 ?_ (x := bf (ag := false) (vs := [sl _ _]) bz (by exact tI) (by exact rfl) (by exact nl rfl))
 refine sO [(0, _), (2, _), (3, _), (4, _), (5, _), (5000, _)] [(0, _), (2, _), (3, (149, [val _, val _, sl _ _, sl _ _, sl _ _]))] ?_
 refine ku ?_
 refine rA ?_ (x := iX)
 refine mw ?_
 refine kr ?_
 refine sG [0, 2, 3, 4, 5, 5000] [0, 2, 3] ?_
 refine rM ?_
 refine rm ?_
 refine nx (k + 1) (by omega) (e := (by exact aI (by exact bA (by first | rfl | (show _ = _ + 1 + _; omega))) (aI (by exact bA (by omega)) tI))) (f := (by exact aI (by exact rfl) (aI (by rw [dl]; simp only [iU, MJ, bb]; exact rfl) tI)))
 have hend : k = jv c := by omega
 have hcs : dp c = (dl (dk c).1 (dw c) k) := by rw [hend]; rfl
 rw [← hcs]
 have hcl3 := xJ (dk c).1 c (jv c)
 have hv0 : 0 < (dp c).ten.length := by have := hcl3.2.1; show 0 < (dl (dk c).1 (dw c) (jv c)).ten.length; omega
 have hr0 : 0 < (iU c (dp c)).Rows.length := by have := hcl3.2.2; show 0 < (dl (dk c).1 (dw c) (jv c)).rows.length; omega
 refine bE ?_
 refine dO ?_
 refine Ik ?_
 refine mw ?_
 refine fM ?_
 refine Aj ?_
 refine sc (fun hbb => ?_) (fun hbb => ?_)
 have hr := Xi (c := c) hbb
 refine sG [0, 2, 3, 4, 5, 49, 5000] [0, 2, 3] ?_
 refine HS ?_
 refine rA ?_ (x := bR (bx := 0) (qs := [(false, [sl _ _])]) (as_ := [(false, [sl .v _])]) (by decide) jh rfl (by exact (aI (by exact tI) tI)) (by exact (aI (aI rfl (aA ao.nil)) tI)) (by exact (ab.cons (bor_lo _ _) (ab.cons (bor_val _) (ab.cons (bor_val _) ab.nil)))) (by exact (bV (ab.cons (bor_sl _) ab.nil) bH)) (by exact (jm (l := [-1, 0, 4, 5]) (fun es => bor_lo _ es) (by decide) (by decide))))
 refine rA ?_ (x := lF nZ)
 refine rA ?_ (x := bf (ag := false) (vs := [val _]) aw (by exact tI) (by exact rfl) (by exact nl rfl))
 exact zc
 have h0_ := hbb
 refine Aj ?_
 refine sc (fun hbc => ?_) (fun hbc => ?_)
 have hr := Xj (c := c) h0_ hbc
 refine sP [0, 2, 3, 4, 5, 49, 5000] [0, 2, 3] ?_
 refine Hz ?_
 refine bi ?_
 refine rA ?_ (x := lF iO)
 refine rA ?_ (x := lD [sl .v _] bz)
 refine rA ?_ (x := uR (i := 1) (j := (iU c (dp c)).Rows.length) (ys := ((iU c (dp c)).Rows.drop 1)) (r := (((iU c (dp c)).Rows.length : Nat) : Int)) (by decide) aW (by exact (aJ rfl)) (by exact rfl) (by omega) (by omega) (by omega) (by omega) (fun _ => rfl) (by rw [bY]))
 refine rA ?_ (x := lF iO)
 refine rA ?_ (x := bf (ag := false) (vs := [sl _ _]) bz (by exact tI) (by exact rfl) (by exact nl rfl))
 exact zc
 have h1_ := hbc
 refine Aj ?_
 refine sc (fun hbd => ?_) (fun hbd => ?_)
 have hr := Xk (c := c) h0_ h1_ hbd
 refine sP [0, 2, 3, 4, 5, 49, 5000] [0, 2, 3] ?_
 refine jC (d := 3) (t := 149) (D := 900) (G := 2900) (E := 3) (e := 1) (L := Bl) (A := [val _, val _, sl _ _]) (B := [sl _ _]) (es := ((dp c).ten).map an) (by exact rfl) (iq hv0) (by exact rfl) (by exact rfl) rfl (by exact rfl) (fun x hx => hx) (by exact lq) (by exact lq) (by exact lq) (by exact lq) (ar.map fun x => (ar.cons lcl_val ar.nil)) fun uu900 cp900 jk900 hlD900 hcp900 hjk900 => ?_
 rw [am] at hlD900 hcp900 hjk900
 refine cK (d := 900) (by exact rfl) (hI (k := 0) hv0) ?_
 have hA900 := hJ (f := an) (e := 1) (xs := (dp c).ten) (k := 0) (fun _ => rfl) (Nat.le_of_lt hv0)
 refine sO [(0, _), (2, _), (3, _), (4, _), (5, _), (49, _), (2900, _), (5000, _)] [(0, _), (2, _), (3, (149, [val _, val _, sl _ _, val _, sl _ _])), (900, (3, _ ++ ([val _] ++ _)))] ?_
 refine At ?_
 refine dA 1 ?_ (x := lD [val _] bz)
 refine zz ?_
 refine dA 12 ?_ (x := bR (bx := 0) (qs := [(false, [sl _ _])]) (as_ := [(false, [sl .v _])]) (by decide) jh rfl (by exact (aI (by exact tI) tI)) (by exact (aI (aI rfl (aA ao.nil)) tI)) (by exact (ab.cons (bor_lo _ _) (ab.cons (bor_val _) (ab.cons (bor_val _) ab.nil)))) (by exact (bV (ab.cons (bor_sl _) ab.nil) bH)) (by exact (jm (l := [-1, 3, 4]) (fun es => bor_lo _ es) (by decide) (by decide))))
 refine HU ?_
 refine cK (d := 900) (by exact rfl) (kq ((sd c).1) hv0 (by exact rfl)) ?_
 refine lI (d := 3) (D := 900) (G := 2900) (e := 1) (A := [val _, val _, sl _ _]) (B := [sl _ _]) (es := (((dp c).ten).set 0 ((sd c).1)).map an) (by exact rfl) (by exact rfl) (by exact rfl) rfl (by rw [am, List.length_set, am]) (by intro c hc; obtain ⟨y, _, rfl⟩ := List.mem_map.1 hc; exact rfl) (by rw [am]; exact hjk900) ?_
 exact zc
 have hr := Xl (c := c) h0_ h1_ hbd
 refine eA ?_
 refine sP [0, 2, 3, 4, 5, 49, 5000] [0, 2, 3] ?_
 exact Gw
def XC {c : au}  : fa prog 76 176 (ce .v c) (ce .v (gt c).2) [] (aF [(true, [sl bQ ((gt c).1.ZE.map (aO be ae)), val (vI (gt c).1.Now)])]) := by
 refine fO (rs := [(true, [sl bQ ((gt c).1.ZE.map (aO be ae)), val (vI (gt c).1.Now)])]) func76 rfl (nl rfl) (nl rfl) ?_
 intro g_ h0 w0 Fz0
 refine uZ (fun L => [(0, RV.ptr 0 0), (5000, RV.phi 0 g_)]) (fun L => [(0, (176, [sl (.lo L) (c.b.map jL), val (vI (c.i : Int)), val (vI c.h)]))]) (fun L => by exact (it.cons hO.ptr (it.cons hO.phi tI))) (fun L => by exact (kY.cons (aj.cons (bn (fun _ => nl rfl) (fun _ => (aj.cons aC aj.nil))) (aj.cons aC (aj.cons aC aj.nil))) (ab.cons (bor_lo _ _) (ab.cons (bor_val _) (ab.cons (bor_val _) ab.nil))) tI)) fun Bl w0 Fz0 => ?_
 have hso := uq c
 have hsw := rY hso
 have hg0 : 0 < (br c).s.ZE.length := (iS.1 hso).l1
 have he0 : ik (br c).s = (br c).s.ZE[0] := oo hg0
 have hs4 := (iS.1 hso).sm _ (List.getElem_mem hg0)
 have hs8 := (iS.1 hso).l8
 refine we ?_
 refine ba ?_
 refine sO [(0, _), (2, _), (5000, _)] [(0, (176, [sl (.lo _) _, val _, val _])), (2, (41, [sl _ _, val _]))] ?_
 refine lL ?_
 refine rA ?_ (x := bR (bx := 0) (qs := []) (as_ := []) (by decide) KS rfl (by exact tI) (by exact tI) (by exact (ab.cons (bor_lo _ _) (ab.cons (bor_val _) (ab.cons (bor_val _) ab.nil)))) (by exact bH) (by exact (Nf (fun es => bor_lo _ es))))
 refine mx ?_
 refine dO ?_
 refine sO [(0, _), (2, _), (3, _), (5000, _)] [(0, _), (2, _), (3, (41, [sl _ _, val _]))] ?_
 refine bi ?_
 refine mw ?_
 refine fM ?_
 refine pU ?_
 refine sc (fun hba => ?_) (fun hba => ?_)
 have hr := MP (c := c) hba
 refine Ab ?_
 refine rA ?_ (x := bm (qs := [(false, [val _]), (false, [val _]), (false, [val _]), (false, [val _]), (false, [val _])]) (by decide) aW bX (by decide) rfl rfl rfl rfl rfl (by exact nl rfl) (by exact (aI (aJ rfl) (aI (aJ rfl) (aI (aJ rfl) (aI (aJ rfl) (aI (aJ rfl) tI)))))) rfl)
 refine rA ?_ (x := bR (bx := 0) (qs := [(false, [sl _ _])]) (as_ := [(false, [sl .v _])]) (by decide) jh rfl (by exact (aI (by exact tI) tI)) (by exact (aI (aI rfl (aA ao.nil)) tI)) (by exact (ab.cons (bor_lo _ _) (ab.cons (bor_val _) (ab.cons (bor_val _) ab.nil)))) (by exact (bV (ab.cons (bor_sl _) ab.nil) bH)) (by exact (jm (l := [-1, 0, 99999, 100000, 100001]) (fun es => bor_lo _ es) (by decide) (by decide))))
 refine rA ?_ (x := lF fG)
 refine rA ?_ (x := bf (ag := false) (vs := [val _]) aw (by exact tI) (by exact rfl) (by exact nl rfl))
 exact zd
 have h0_ := hba
 refine pU ?_
 refine sc (fun hbb => ?_) (fun hbb => ?_)
 have h1_ := hbb
 refine sS [0, 2, 3, 7, 5000] [0, 2, 3] ?_
 refine zm ?_
 refine rA ?_ (x := aU (k := 0) (by decide) fj (aJ rfl) (by rfl) (by exact aV hg0 rfl) (by exact rfl))
 refine rA ?_ (x := lE [sl .v _] iP)
 refine rA ?_ (x := lN cX)
 refine rA ?_ (x := dC)
 refine sc (fun hbc => ?_) (fun hbc => ?_)
 have hl0 : 0 < (br c).s.ZE[0].length := by first | omega | (simp at hbc; omega)
 have hr := MQ (c := c) h0_ h1_ (by rw [he0]; exact hl0)
 simp only [he0] at hr
 refine sP [0, 2, 3, 7, 5000] [0, 2, 3] ?_
 refine jC (d := 3) (t := 41) (D := 920) (G := 2920) (E := 114) (e := 1) (L := Bl) (A := []) (B := [val _]) (es := ((br c).s.ZE).map (aO be ae)) (by exact rfl) (iq hg0) (by exact rfl) (by exact rfl) rfl (by exact rfl) (fun x hx => hx) (by exact lq) (by exact lq) (by exact ar.nil) (by exact lc) (ar.map fun x => (ar.cons (lcl_own (ar.map fun x => (ar.cons lcl_val (ar.cons (lcl_own (ar.map fun x => (ar.cons lcl_val ar.nil))) (ar.cons lcl_val (ar.cons lcl_val ar.nil)))))) ar.nil)) fun uu920 cp920 jk920 hlD920 hcp920 hjk920 => ?_
 rw [am] at hlD920 hcp920 hjk920
 refine cK (d := 920) (by exact rfl) (hI (k := 0) hg0) ?_
 have hA920 := hJ (f := (aO be ae)) (e := 1) (xs := (br c).s.ZE) (k := 0) (fun _ => rfl) (Nat.le_of_lt hg0)
 refine sO [(0, _), (2, _), (3, _), (7, _), (2920, _), (5000, _)] [(0, _), (2, _), (3, (41, [val _, val _])), (920, (114, _ ++ ([sl _ _] ++ _)))] ?_
 refine jC (d := 920) (t := 114) (D := 921) (G := 2921) (E := 116) (e := 4) (L := Bl) (A := _) (B := [] ++ _) (es := ((br c).s.ZE[0]).map (ff ae)) (by exact rfl) (iq hl0) (by exact rfl) (by exact rfl) rfl (by exact rfl) (fun x hx => hx) (by exact lq) (by exact lq) (by exact lc) (by exact lc) (ar.map fun x => (ar.cons lcl_val (ar.cons (lcl_own (ar.map fun x => (ar.cons lcl_val ar.nil))) (ar.cons lcl_val (ar.cons lcl_val ar.nil))))) fun uu921 cp921 jk921 hlD921 hcp921 hjk921 => ?_
 rw [am] at hlD921 hcp921 hjk921
 refine cK (d := 921) (by exact rfl) (hI (k := 0) hl0) ?_
 have hA921 := hJ (f := (ff ae)) (e := 4) (xs := (br c).s.ZE[0]) (k := 0) (fun _ => rfl) (Nat.le_of_lt hl0)
 refine sO [(0, _), (2, _), (3, _), (7, _), (2920, _), (2921, _), (5000, _)] [(0, _), (2, _), (3, _), (920, (114, _ ++ ([val _] ++ _))), (921, (116, _ ++ ([val _, sl _ _, val _, val _] ++ _)))] ?_
 refine cv cd ?_
 refine tm ?_
 refine dA 3 ?_ (x := gj (k := 0) (G := 2920) (by decide) fj (aJ rfl) (by rfl) (by first | (rw [am]; exact hg0) | exact hg0))
 refine dA 7 ?_ (x := pC (o := 0) (qs := [val _]) (by omega) (by decide) iP (fun _ => rfl) (by exact nl rfl) (by exact (aq ao.nil)) (by exact (ab.cons (bor_val _) ab.nil)))
 refine HR ?_
 refine dA 48 ?_ (x := bR (bx := 0) (qs := [(false, [sl _ _])]) (as_ := [(false, [sl .v _])]) (by decide) jh rfl (by exact (aI (by exact tI) tI)) (by exact (aI (aI rfl (aA ao.nil)) tI)) (by exact (ab.cons (bor_lo _ _) (ab.cons (bor_val _) (ab.cons (bor_val _) ab.nil)))) (by exact (bV (ab.cons (bor_sl _) ab.nil) bH)) (by exact (jm (l := [-2, 0, 1, 99]) (fun es => bor_lo _ es) (by decide) (by decide))))
 refine dA 127 ?_ (x := gj (k := 0) (G := 2921) (by decide) cX (aJ rfl) (by rfl) (by first | (rw [am]; exact hl0) | exact hl0))
 refine dA 255 ?_ (x := lF kL)
 refine dA 511 ?_ (x := kX (o := 3) (ag := false) (vs := [val _]) (by omega) aw (by exact tI) (by exact rfl) (by exact nl rfl))
 refine cK (d := 921) (by exact rfl) (kq (nc (br c).s.ZE[0][0] (nb c).1) hl0 (by exact rfl)) ?_
 refine lI (d := 920) (D := 921) (G := 2921) (e := 4) (A := _) (B := [] ++ _) (es := (((br c).s.ZE[0]).set 0 (nc (br c).s.ZE[0][0] (nb c).1)).map (ff ae)) (by exact rfl) (by exact rfl) (by exact rfl) rfl (by rw [am, List.length_set, am]) (by intro c hc; obtain ⟨y, _, rfl⟩ := List.mem_map.1 hc; exact rfl) (by rw [am]; exact hjk921) ?_
 refine cK (d := 920) (by exact rfl) (kq ((br c).s.ZE[0].set 0 (nc (br c).s.ZE[0][0] (nb c).1)) hg0 (by exact rfl)) ?_
 refine lI (d := 3) (D := 920) (G := 2920) (e := 1) (A := []) (B := [val _]) (es := (((br c).s.ZE).set 0 ((br c).s.ZE[0].set 0 (nc (br c).s.ZE[0][0] (nb c).1))).map (aO be ae)) (by exact rfl) (by exact rfl) (by exact rfl) rfl (by rw [am, List.length_set, am]) (by intro c hc; obtain ⟨y, _, rfl⟩ := List.mem_map.1 hc; exact rfl) (by rw [am]; exact hjk920) ?_
 exact zd
 have hr := MR (c := c) h0_ h1_ (by rw [he0]; first | omega | (simp at hbc; omega))
 exact Gy
 have h1_ := hbb
 refine pU ?_
 refine sc (fun hbc => ?_) (fun hbc => ?_)
 have hr := MS (c := c) h0_ h1_ hbc
 rw [he0] at hr
 refine sP [0, 2, 3, 7, 5000] [0, 2, 3] ?_
 refine jC (d := 3) (t := 41) (D := 940) (G := 2940) (E := 114) (e := 1) (L := Bl) (A := []) (B := [val _]) (es := ((br c).s.ZE).map (aO be ae)) (by exact rfl) (iq hg0) (by exact rfl) (by exact rfl) rfl (by exact rfl) (fun x hx => hx) (by exact lq) (by exact lq) (by exact ar.nil) (by exact lc) (ar.map fun x => (ar.cons (lcl_own (ar.map fun x => (ar.cons lcl_val (ar.cons (lcl_own (ar.map fun x => (ar.cons lcl_val ar.nil))) (ar.cons lcl_val (ar.cons lcl_val ar.nil)))))) ar.nil)) fun uu940 cp940 jk940 hlD940 hcp940 hjk940 => ?_
 rw [am] at hlD940 hcp940 hjk940
 refine cK (d := 940) (by exact rfl) (hI (k := 0) hg0) ?_
 have hA940 := hJ (f := (aO be ae)) (e := 1) (xs := (br c).s.ZE) (k := 0) (fun _ => rfl) (Nat.le_of_lt hg0)
 refine sO [(0, _), (2, _), (3, _), (7, _), (2940, _), (5000, _)] [(0, _), (2, _), (3, (41, [val _, val _])), (940, (114, _ ++ ([sl _ _] ++ _)))] ?_
 refine cv cd ?_
 refine tm ?_
 refine dA 0 ?_ (x := lF jW)
 refine dA 4 ?_ (x := lD [val _] jX)
 refine dA 12 ?_ (x := gj (k := 0) (G := 2940) (by decide) fj (aJ rfl) (by rfl) (by first | (rw [am]; exact hg0) | exact hg0))
 refine dA 28 ?_ (x := yu (o := 0) (ms := [sl _ _]) (qs := [sl .v _]) (by omega) (by decide) iP (fun _ => rfl) (by exact nl rfl) (by exact rfl) (by exact (aA ao.nil)) (by exact (ab.cons (bor_sl _) ab.nil)))
 refine dA 0 ?_ (x := cM Cp.ptr)
 refine dA 64 ?_ (x := bR (bx := 0) (qs := [(false, [val _])]) (as_ := [(false, [val _])]) (by decide) jV rfl (by exact (aI (aJ rfl) tI)) (by exact (aI (aI rfl (aq ao.nil)) tI)) (by exact (ab.cons (bor_lo _ _) (ab.cons (bor_val _) (ab.cons (bor_val _) ab.nil)))) (by exact (bV (ab.cons (bor_val _) ab.nil) bH)) (by exact (jZ (fun es => bor_lo _ es) (by omega))))
 refine dA 0 ?_ (x := bm (qs := [(false, [val _]), (false, [val _]), (false, [val _])]) (by decide) aW bX (by decide) rfl rfl rfl rfl rfl (by exact nl rfl) (by exact (aI (aJ rfl) (aI (aJ rfl) (aI (aJ rfl) tI)))) rfl)
 refine dA 448 ?_ (x := dM (qs := [(false, [val _]), (false, [sl _ _]), (false, [val _])]) (cs := [val _, sl _ _, val _, val _]) (by decide) fU pm Xx (by exact rfl) (by exact (aI (by exact tI) (aI (by exact tI) (aI (aJ rfl) tI)))) rfl (by exact rfl))
 refine dA 960 ?_ (x := bm (qs := [(true, [val _, sl _ _, val _, val _])]) (by decide) cX fU (by decide) rfl rfl rfl rfl rfl (by exact nl rfl) (by exact (aI (by exact tI) tI)) rfl)
 refine dA 2044 ?_ (x := dy (by decide) cX fU rfl rfl (by decide) rfl (by simp only [am, aD, List.length_cons, List.length_nil]; omega) (by simp only [am, aD, List.length_cons, List.length_nil]; omega))
 refine dA 4095 ?_ (x := gj (k := 0) (G := 2940) (by decide) fj (aJ rfl) (by rfl) (by first | (rw [am]; exact hg0) | exact hg0))
 refine dA 8191 ?_ (x := kX (o := 0) (ag := false) (vs := [sl _ _]) (by omega) iP (by exact tI) (by exact rfl) (by exact nl rfl))
 refine cK (d := 940) (by exact rfl) (kq ((br c).s.ZE[0] ++ [⟨(ou c).1, [1, 2, 3], 0, -1⟩]) hg0 (by simp only [aO, bb]; exact rfl)) ?_
 refine lI (d := 3) (D := 940) (G := 2940) (e := 1) (A := []) (B := [val _]) (es := (((br c).s.ZE).set 0 ((br c).s.ZE[0] ++ [⟨(ou c).1, [1, 2, 3], 0, -1⟩])).map (aO be ae)) (by exact rfl) (by exact rfl) (by exact rfl) rfl (by rw [am, List.length_set, am]) (by intro c hc; obtain ⟨y, _, rfl⟩ := List.mem_map.1 hc; exact rfl) (by rw [am]; exact hjk940) ?_
 exact zd
 have hr := MT (c := c) h0_ h1_ hbc
 exact Gy
def XD {c : au}  : fa prog 80 176 (ce .v c) (ce .v (ot c).c) [] (aF [(false, [sl cH ((ot c).l.map (bF .v .v .v))])]) := by
 refine fO (rs := [(false, [sl cH ((ot c).l.map (bF .v .v .v))])]) func80 rfl (nl rfl) (nl rfl) ?_
 intro g_ h0 w0 Fz0
 have hb0 := dh c 6
 have hb1 := di c (n := 6) (by decide)
 have hln := MN c
 refine JF ?_
 refine sT [0, 2, 5000] [0] ?_
 refine rA ?_ (x := bm (qs := []) (by decide) ij jY (by decide) rfl rfl rfl rfl rfl (by exact nl rfl) (by exact tI) rfl)
 refine jJ ?_
 refine sS [0, 2, 3, 5000] [0] ?_
 refine vv ?_
 refine rS ?_
 refine fM ?_
 refine sP [0, 2, 3, 4, 5000] [0] ?_
 refine sL [0, 2, 5000] [] (fun k : Nat => k ≤ na c) (fun k : Nat => [(3, RV.slc cH ((mZ ⟨[], (ak c 6).2⟩ k).l.map (bF .v .v .v))), (4, RV.int ((na c : Int) - (k : Int)))]) (fun k : Nat => [(0, (176, ce .v (mZ ⟨[], (ak c 6).2⟩ k).c))]) (fun k : Nat => na c - k) 0 (by omega) (by exact aI (by exact rfl) (aI (by exact bA (by unfold na; omega)) tI)) (by exact aI (by exact rfl) tI) ?_
 rintro k hk
 have hll := Cx (ak c 6).2 k
 refine ri ?_
 refine sc (fun hba => ?_) (fun hba => ?_)
 have hlt : k < na c := by omega
 refine bw ?_
 refine sH [0, 2, 3, 4, 5000] [0] ?_
 refine rA ?_ (x := tM)
 refine rA ?_ (x := cM Cp.ptr)
 refine rA ?_ (x := bR (bx := 0) (qs := []) (as_ := []) (by decide) Su rfl (by exact tI) (by exact tI) (by exact (ab.cons (bor_sl _) (ab.cons (bor_val _) (ab.cons (bor_val _) ab.nil)))) (by exact bH) (by exact XB))
 refine rA ?_ (x := bm (qs := [(true, [val _, val _, sl _ _, sl _ _, sl _ _])]) (by decide) ij jY (by decide) rfl rfl rfl rfl rfl (by exact nl rfl) (by exact (aI (by exact tI) tI)) rfl)
 refine rA ?_ (x := dy (by decide) ij jY rfl rfl (by decide) rfl (by simp only [am, aD, List.length_cons, List.length_nil]; omega) (by simp only [am, aD, List.length_cons, List.length_nil]; omega))
 refine rA ?_ (x := tA)
 refine sG [0, 2, 3, 4, 5000] [0] ?_
 refine rM ?_
 refine rm ?_
 refine nx (k + 1) (by omega) (e := (by exact aI (by exact bI (by rw [mZ]; simp only [MM, bb]; exact rfl)) (aI (by exact bA (by omega)) tI)))
 have hend : k = na c := by omega
 refine bE ?_
 refine sT [0, 2, 3, 4, 5000] [0] ?_
 refine gz ?_
 exact ⟨(by unfold ot; rw [← hend]; exact rfl), rfl, (aI (by refine bI ?_; unfold ot; rw [← hend]; try exact rfl) tI)⟩
end Go.Proofs.YtmekkgdboplbjaaGreatDoor
