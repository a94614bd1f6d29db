/- What functions of the program compute. No condition. -/
import Derived.Test.YtmekkgdboplbjaaGreatDoorCB1
import Derived.Test.YtmekkgdboplbjaaGreatDoorCP1
import Derived.Test.YtmekkgdboplbjaaGreatDoorCS1
import Derived.Test.YtmekkgdboplbjaaGreatDoorCT1
import Derived.Test.YtmekkgdboplbjaaGreatDoorCU1
set_option linter.all false
namespace Go.Proofs.YtmekkgdboplbjaaGreatDoor
open Go Go.RowKit M PV Tryz
set_option maxRecDepth 10000
attribute [local irreducible] PV.Lcl PV.LclR RV.Lcl
set_option maxHeartbeats 8000000
attribute [local irreducible] ak gn
def YE : dL prog 56 = some [(0, 4), (4, 1), (5, 1), (6, 1)] := by kernel_rfl
def YF {p1 p2 p5 p6 p7 p8 p9 p11 p12 p13 p14 p16 p17 p18 : Fl} {e : ay} {i : Int}  (hb : bB e ≤ 68719476736) : aN prog 20 [(true, [sl .v (e.Store.ZE.map (aO p1 p2)), val (vI e.Store.Now), val (vI e.ZJ), sl .v (e.Order.map an), sl .v (e.ZF.map (bq p5 p6 p7 p8 p9)), sl .v (e.Done.map (bN p11 p12 p13 p14)), sl .v (e.ZR.map (bF p16 p17 p18)), val (vI e.Steps)]), (false, [val (vI i)])] (aF [(false, [val (.bool (lp e i))])]) := by
 refine sF func20 fun h0 w0 Fz0 => ?_
 refine sn 0 0 fun hl0_0 => ?_
 refine sn 0 3 fun hl0_3 => ?_
 refine sn 0 4 fun hl0_4 => ?_
 refine sn 0 5 fun hl0_5 => ?_
 refine sn 0 6 fun hl0_6 => ?_
 refine zip ?_
 refine rK ?_
 refine sT [1, 2, 4] [2] ?_
 refine zw ?_
 refine rM ?_
 refine cx 7 (fun ga sga => ?_) (fun ga sga => ?_)
 have hok : aT e = true := ga
 have sga := ga
 try simp only [qq] at sga
 refine rB ga ?_ (x := sM)
 refine rB ga ?_ (x := lF eQ)
 refine rB ga ?_ (x := lD [sl .v _] eG)
 refine rB ga ?_ (x := lN ct)
 refine rB ga ?_ (x := gw)
 refine rB ga ?_ (x := cL [(false, [val _]), (false, [val _]), (false, [val _])] [(false, [val _]), (false, [val _]), (false, [val _])] jN (hs := by exact kb))
 refine nA ?_
 refine cx 15 (fun gb sgb => ?_) (fun gb sgb => ?_)
 have hin0 := gb; have hin := gb; simp only [aB, aL, decide_eq_true_eq] at hin; have hil : i.toNat < e.ZF.length := (by omega); have hgd := cU (d := go) hil
 have sgb := gb
 try simp only [qq] at sgb
 refine rB gb ?_ (x := lF eQ)
 refine rB gb ?_ (x := lD [sl .v _] eG)
 refine rB gb ?_ (x := sM)
 refine rB gb ?_ (x := aU (k := i.toNat) (by decide) ct (by exact tI) (by first | rfl | omega) (by exact aV hil rfl) (by exact rfl))
 refine rB gb ?_ (x := lE [val _, val _, sl .v _, sl .v _, val _, sl .v _, val _, val _, val _, sl .v _] lu)
 refine rB gb ?_ (x := cL [(true, [val _, val _, sl _ _, sl _ _, val _, sl _ _, val _, val _, val _, sl _ _])] [(true, [val _, val _, sl .v _, sl .v _, val _, sl .v _, val _, val _, val _, sl .v _])] Le (hs := by exact Ng))
 refine rA ?_ (x := aK gb)
 exact zk
 refine oF ?_
 exact zk
 have hbad : lp e i = false := by first | (simp_all [lp]; done)
 have sga := ga
 try simp only [qq] at sga
 refine kx ?_
 refine az.cases (s := 15) rfl (fun g3 => nomatch g3) (fun g3 => ?_)
 refine zf g3 ?_
 refine rA ?_ (x := aH g3)
 exact zk
def YG {code : List Int}  (hb : code.length ≤ 9223372036854775807) (hb2 : code.length ≤ 4611686018427387904) : aN prog 22 [(false, [sl .v (code.map jL)])] (aF [(true, [sl bQ ((gt (dg code hb)).1.ZE.map (aO be ae)), val (vI (gt (dg code hb)).1.Now)]), (false, [val (vI ((ak (gt (dg code hb)).2 6).1 - 1))])]) := by
 refine sF func22 fun h0 w0 Fz0 => ?_
 refine sj 0 fun hl0 => ?_
 have hw7 := MW (dg code hb)
 have hb61 := dh (gt (dg code hb)).2 6
 have hb62 := di (gt (dg code hb)).2 (n := 6) (by decide)
 refine we ?_
 refine rK ?_
 refine sT [0, 2, 3] [2] ?_
 refine vC ?_
 refine rA ?_ (x := cA Cp.ptr)
 refine ba ?_
 refine sO [(0, _), (2, _), (3, _), (4, _)] [(2, _), (7, (176, [sl _ _, val _, val _]))] ?_
 refine lL ?_
 refine rA ?_ (x := bR (bx := 7) (qs := []) (as_ := []) (by decide) Ty rfl (by exact tI) (by exact tI) (by exact (ab.cons (bor_sl _) (ab.cons (bor_val _) (ab.cons (bor_val _) ab.nil)))) (by exact bH) (by exact XC))
 refine mx ?_
 refine ba ?_
 refine sO [(0, _), (2, _), (3, _), (4, _), (5, _)] [(2, _), (5, (41, [sl _ _, val _])), (7, _)] ?_
 refine cv cd ?_
 refine dA 0 ?_ (x := dH (ms := [sl _ _, val _]) (qs := [sl .v _, val _]) (by decide) cF (fun h => nomatch h) (by exact nl rfl) (by exact rfl) (by exact (aA (aq ao.nil))) (by exact (ab.cons (bor_sl _) (ab.cons (bor_val _) ab.nil))))
 refine dA 0 ?_ (x := cM Cp.ptr)
 refine dA 2 ?_ (x := bR (bx := 7) (qs := [(false, [val _])]) (as_ := [(false, [val _])]) (by decide) jV rfl (by exact (aI (aJ rfl) tI)) (by exact (aI (aI rfl (aq ao.nil)) tI)) (by exact (ab.cons (bor_sl _) (ab.cons (bor_val _) (ab.cons (bor_val _) ab.nil)))) (by exact (bV (ab.cons (bor_val _) ab.nil) bH)) (by exact (jZ (fun es => bor_sl es) (by omega))))
 refine dA 6 ?_ (x := gw)
 refine dA 7 ?_ (x := bf (ag := true) (vs := [sl _ _, val _]) cF (by exact tI) (by exact rfl) (by exact nl rfl))
 refine dA 31 ?_ (x := sA)
 refine dc ?_
 exact (bj 2 (bj _ (aI (by exact rfl) (aI (by exact rfl) (aI cF (aI (fun h => nomatch h) (aI (by exact rfl) tI)))))))
def YH {code : List Int}  (hb : code.length ≤ 9223372036854775807) (hb2 : code.length ≤ 4611686018427387904) : aN prog 23 [(false, [sl .v (code.map jL)])] (aF [(true, [val (vI (qE (dg code hb)).ZG.Id), val (vI (qE (dg code hb)).ZG.ZK), sl aP ((qE (dg code hb)).ZG.ZH.map dj), sl ae ((qE (dg code hb)).ZG.Out.map an), val (vI (qE (dg code hb)).Time), val (vI (qE (dg code hb)).Steps), sl aR ((qE (dg code hb)).Rows.map (dt ae))])]) := by
 refine sF func23 fun h0 w0 Fz0 => ?_
 refine sj 0 fun hl0 => ?_
 have hw4 := MH (dg code hb)
 refine sR ?_
 refine rX ?_ (x := (db (by decide) pk xo))
 refine sT [0, 2] [2] ?_
 refine vC ?_
 refine rA ?_ (x := cA Cp.ptr)
 refine ba ?_
 refine sO [(0, _), (2, _), (3, _)] [(2, _), (6, (176, [sl _ _, val _, val _]))] ?_
 refine lL ?_
 refine rA ?_ (x := bR (bx := 6) (qs := []) (as_ := []) (by decide) Tz rfl (by exact tI) (by exact tI) (by exact (ab.cons (bor_sl _) (ab.cons (bor_val _) (ab.cons (bor_val _) ab.nil)))) (by exact bH) (by exact XA))
 refine vJ ?_
 refine ba ?_
 refine sO [(0, _), (2, _), (3, _), (4, _)] [(2, _), (4, (25, [val _, val _, sl _ _, sl _ _])), (6, _)] ?_
 refine cv cd ?_
 refine dA 0 ?_ (x := dH (ms := [val _, val _, sl _ _, sl _ _]) (qs := [val _, val _, sl .v _, sl .v _]) (by decide) fh (fun h => nomatch h) (by exact nl rfl) (by exact rfl) (by exact (aq (aq (aA (aA ao.nil))))) (by exact lq))
 refine dA 0 ?_ (x := cM Cp.ptr)
 refine dA 2 ?_ (x := bR (bx := 6) (qs := []) (as_ := []) (by decide) TA rfl (by exact tI) (by exact tI) (by exact (ab.cons (bor_sl _) (ab.cons (bor_val _) (ab.cons (bor_val _) ab.nil)))) (by exact bH) (by exact TZ))
 refine dA 7 ?_ (x := dM (qs := [(true, [val _, val _, sl _ _, sl _ _]), (false, [sl _ _])]) (cs := [val _, val _, sl _ _, sl _ _, val _, val _, sl _ _]) (by decide) pk xo YE (by exact rfl) (by exact (aI (by exact tI) (aI (by exact tI) tI))) rfl (by exact rfl))
 refine dA 15 ?_ (x := bf (ag := true) (vs := [val _, val _, sl _ _, sl _ _, val _, val _, sl _ _]) qx (by exact tI) (by exact rfl) (by exact nl rfl))
 refine dc ?_
 exact (bj 2 (bj _ (aI (by exact rfl) (aI (by exact rfl) (aI qx (aI (fun h => nomatch h) tI))))))
def YI {code : List Int}  (hb : code.length ≤ 9223372036854775807) (hb2 : code.length ≤ 4611686018427387904) : aN prog 24 [(false, [sl .v (code.map jL)])] (aF [(false, [sl cH ((ot (dg code hb)).l.map (bF .v .v .v))])]) := by
 refine sF func24 fun h0 w0 Fz0 => ?_
 refine sj 0 fun hl0 => ?_
 have hwl := MO (dg code hb)
 refine JF ?_
 refine sS [0, 2] [] ?_
 refine vC ?_
 refine rA ?_ (x := bR (bx := 4) (qs := []) (as_ := []) (by decide) TB rfl (by exact tI) (by exact tI) (by exact (ab.cons (bor_sl _) (ab.cons (bor_val _) (ab.cons (bor_val _) ab.nil)))) (by exact bH) (by exact XD))
 exact yL
end Go.Proofs.YtmekkgdboplbjaaGreatDoor
