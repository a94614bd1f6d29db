/- What functions of the program compute. No condition. -/
import Derived.Test.YtmekkgdboplbjaaGreatDoorCT0
import Derived.Test.YtmekkgdboplbjaaGreatDoorCZ0
set_option linter.all false
namespace Go.Proofs.YtmekkgdboplbjaaGreatDoor
open Go Go.RowKit M PV Tryz
set_option maxRecDepth 10000
attribute [local irreducible] PV.Lcl PV.LclR RV.Lcl
def Ng {p4 : Fl} {a : ZF}  : aN prog 68 [(true, [val (vI a.ZG.Id), val (vI a.ZG.ZK), sl .v (a.ZG.ZH.map dj), sl .v (a.ZG.Out.map an), val (vI a.Time), sl .v (a.ZO.map an), val (vI a.Age), val (vI a.Sent), val (vI a.Cap), sl .v (a.Rows.map (dt p4))])] (aF [(false, [val (.bool (ie a))])]) := by
 refine sF func68 fun h0 w0 Fz0 => ?_
 refine sn 0 2 fun hl0_2 => ?_
 refine sn 0 3 fun hl0_3 => ?_
 refine sn 0 5 fun hl0_5 => ?_
 refine sn 0 9 fun hl0_9 => ?_
 refine sR ?_
 refine IS ?_
 refine sT [1, 2] [1] ?_
 refine rA ?_ (x := lF rR)
 refine rA ?_ (x := lD [val _] aw)
 refine rA ?_ (x := fb)
 refine rM ?_
 refine cx 6 (fun ga sga => ?_) (fun ga sga => ?_)
 refine vD ?_
 exact Gz
 refine rB ga ?_ (x := lF rR)
 refine rB ga ?_ (x := lD [val _] aw)
 refine rB ga ?_ (x := lF qw)
 refine rB ga ?_ (x := lD [val _] aw)
 refine rB ga ?_ (x := dC)
 refine rA ?_ (x := aH ga)
 exact Gz
def Cy {p1 p2 p5 p6 p7 p8 p9 p11 p12 p13 p14 p16 p17 p18 : Fl} {e : ay} {i : Int}  (hb : bB e ≤ 68719476736) : aN prog 21 [(true, [sl .v (e.Store.ZE.map (aO p1 p2)), val (vI e.Store.Now), val (vI e.ZJ), sl .v (e.Order.map an), sl .v (e.ZF.map (bq p5 p6 p7 p8 p9)), sl .v (e.Done.map (bN p11 p12 p13 p14)), sl .v (e.ZR.map (bF p16 p17 p18)), val (vI e.Steps)]), (false, [val (vI i)])] (aF [(false, [val (.bool (lp e i))])]) := by
 refine sF func21 fun h0 w0 Fz0 => ?_
 refine sn 0 0 fun hl0_0 => ?_
 refine sn 0 3 fun hl0_3 => ?_
 refine sn 0 4 fun hl0_4 => ?_
 refine sn 0 5 fun hl0_5 => ?_
 refine sn 0 6 fun hl0_6 => ?_
 refine zip ?_
 refine eD ?_
 refine sT [1, 2, 4] [2] ?_
 refine zx ?_
 refine gk ?_
 refine cx 9 (fun ga sga => ?_) (fun ga sga => ?_)
 refine mz ?_
 exact GA
 refine rB ga ?_ (x := sM)
 refine rB ga ?_ (x := lF eQ)
 refine rB ga ?_ (x := lD [sl .v _] eG)
 refine rB ga ?_ (x := lN ct)
 refine rB ga ?_ (x := gw)
 refine wD ?_
 refine sc (fun hba => ?_) (fun hba => ?_)
 exact GA
 have hok : aT e = true ∧ aB i 0 (e.ZF.length - 1) = true := by first | (simp_all; done) | (simp_all; omega)
 have hin := hok.2
 simp only [aB, aL, decide_eq_true_eq] at hin
 have hil : i.toNat < e.ZF.length := by omega
 have hgd := cU (d := go) hil
 refine bc ?_
 refine sS [1, 2, 4] [2] ?_
 refine qU ?_
 refine rM ?_
 refine rA ?_ (x := aU (k := i.toNat) (by decide) ct (by exact tI) (by first | rfl | omega) (by exact aV hil rfl) (by exact rfl))
 refine tc ?_
 refine sZ ?_
 refine sO [(1, _), (2, _), (4, _), (5, _)] [(2, _), (5, (102, [val _, val _, sl _ _, sl _ _, val _, sl _ _, val _, val _, val _, sl _ _]))] ?_
 refine bi ?_
 refine rA ?_ (x := lF rR)
 refine rA ?_ (x := lD [val _] aw)
 refine rA ?_ (x := fb)
 refine rM ?_
 refine cx 26 (fun gb sgb => ?_) (fun gb sgb => ?_)
 refine tC ?_
 exact GB
 refine rB gb ?_ (x := lF qw)
 refine rB gb ?_ (x := lD [val _] aw)
 refine rB gb ?_ (x := lF rR)
 refine rB gb ?_ (x := lD [val _] aw)
 refine rB gb ?_ (x := dZ)
 refine rA ?_ (x := aH gb)
 exact GB
def XE {p1 p2 p5 p6 p7 p8 p9 p11 p12 p13 p14 p16 p17 p18 : Fl} {e : ay}  (hb : bB e ≤ 68719476736) : iu prog gl 16 [(true, [sl .v (e.Store.ZE.map (aO p1 p2)), val (vI e.Store.Now), val (vI e.ZJ), sl .v (e.Order.map an), sl .v (e.ZF.map (bq p5 p6 p7 p8 p9)), sl .v (e.Done.map (bN p11 p12 p13 p14)), sl .v (e.ZR.map (bF p16 p17 p18)), val (vI e.Steps)])] (aF [(false, [sl nk ((lz e).map kD)])]) := by
 refine nt (rs := [(false, [sl nk ((lz e).map kD)])]) func16 rfl (nl rfl) (by exact lq) ?_
 intro h0 w0 Fz0
 refine sn 0 0 fun hl0_0 => ?_
 refine sn 0 3 fun hl0_3 => ?_
 refine sn 0 4 fun hl0_4 => ?_
 refine sn 0 5 fun hl0_5 => ?_
 refine sn 0 6 fun hl0_6 => ?_
 have hbu := hb
 simp only [bB, ix] at hbu
 refine JG ?_
 refine sT [1, 2, 7000] [1] ?_
 refine tf ?_
 refine sS [1, 2, 3, 7000] [1] ?_
 refine zw ?_
 refine rA ?_ (x := nT)
 refine sc (fun hba => ?_) (fun hba => ?_)
 have hok : aT e = false := by simpa using hba
 refine sS [1, 2, 3, 7000] [1] ?_
 refine gz ?_
 exact (aI (by refine bI ?_; rw [Na hok]; rfl) tI)
 have hok : aT e = true := by simpa using hba
 refine eA ?_
 refine sS [1, 2, 3, 7000] [1] ?_
 refine qU ?_
 refine rA ?_ (x := lN ct)
 refine eK ?_
 refine sP [1, 2, 3, 13, 14, 15, 7000] [1] ?_
 refine sL [1, 2, 13, 14, 7000] [1] (fun k : Nat => k ≤ e.ZF.length) (fun k : Nat => [(3, RV.slc nk (((e.ZF.take k).map qF).map kD)), (15, RV.int (k : Int))]) (fun k : Nat => []) (fun k : Nat => e.ZF.length - k) 0 (by omega) (by exact aI (by exact rfl) (aI (by exact rfl) tI)) (by exact tI) ?_
 rintro k hk
 refine eL ?_
 refine sc (fun hbb => ?_) (fun hbb => ?_)
 have hlt : k < e.ZF.length := by omega
 have hwm := fe (f := cS) hlt
 have hwa : cS e.ZF[k] = eM e.ZF[k].ZG + e.ZF[k].ZO.length + gm e.ZF[k].Rows := by simp only [cS, dP, bh]; omega
 have hef := gU hok
 have hac := Nb (hef.2.2.2.2.2.2.2.2.2.1 _ (List.getElem_mem hlt))
 have hsf := jd hef.1
 have hi0 : (itoa e.ZF[k].ZG.Id).length ≤ 21 := cy (by unfold aQ; omega)
 have hi1 : (itoa e.ZF[k].Time).length ≤ 21 := cy (by unfold aQ; omega)
 have hi2 : (itoa (e.ZF[k].ZO.length : Int)).length ≤ 21 := cy (by unfold aQ; omega)
 have hi3 : (itoa (e.ZF[k].Rows.length : Int)).length ≤ 21 := cy (by unfold aQ; omega)
 have htk : (e.ZF.take k).length = k := by rw [bg]; omega
 refine bw ?_
 refine sT [1, 2, 3, 13, 14, 15, 7000] [1] ?_
 refine rA ?_ (x := aU (by decide) ct (by exact tI) (by exact rfl) (by exact aV (by omega) rfl) (by exact rfl))
 refine tc ?_
 refine sZ ?_
 refine sO [(1, _), (2, _), (3, _), (5, _), (13, _), (14, _), (15, _), (7000, _)] [(1, _), (5, (102, [val _, val _, sl _ _, sl _ _, val _, sl _ _, val _, val _, val _, sl _ _]))] ?_
 refine cv cd ?_
 refine dA 0 ?_ (x := lF iN)
 refine dA 1 ?_ (x := lF iB)
 refine dA 3 ?_ (x := lD [val _] aw)
 refine dA 7 ?_ (x := gL [(false, [val _])] [(false, [val _])] iM (hs := by exact (iQ (by unfold aQ; omega))))
 refine dA 15 ?_ (x := dN)
 refine dA 0 ?_ (x := lF qv)
 refine dA 32 ?_ (x := lD [val _] aw)
 refine dA 111 ?_ (x := gL [(false, [val _])] [(false, [val _])] iM (hs := by exact (iQ (by unfold aQ; omega))))
 refine wh ?_
 refine dA 0 ?_ (x := lF ls)
 refine dA 1024 ?_ (x := lD [sl .v _] bz)
 refine dA 3072 ?_ (x := lN aW)
 refine dA 7407 ?_ (x := gL [(false, [val _])] [(false, [val _])] iM (hs := by exact (iQ (by unfold aQ; omega))))
 refine Ae ?_
 refine dA 0 ?_ (x := lF nY)
 refine dA 65536 ?_ (x := lD [sl .v _] gV)
 refine dA 196608 ?_ (x := lN fQ)
 refine dA 474351 ?_ (x := gL [(false, [val _])] [(false, [val _])] iM (hs := by exact (iQ (by unfold aQ; omega))))
 refine dA 1048575 ?_ (x := dN)
 refine dA 2097151 ?_ (x := sA)
 refine ba ?_
 refine sS [1, 2, 3, 5, 6, 13, 14, 15, 7000] [1, 5] ?_
 refine rA ?_ (x := lD [val _, val _, sl .v _, sl .v _, val _, sl .v _, val _, val _, val _, sl .v _] lu)
 refine rA ?_ (x := cL [(true, [val _, val _, sl _ _, sl _ _, val _, sl _ _, val _, val _, val _, sl _ _])] [(true, [val _, val _, sl .v _, sl .v _, val _, sl .v _, val _, val _, val _, sl .v _])] Le (hs := by exact Ng))
 refine rA ?_ (x := nT)
 refine sc (fun hbc => ?_) (fun hbc => ?_)
 have haw : ie e.ZF[k] = false := by first | simpa using hbc | (simp_all; done)
 have hla := MY haw
 refine sG [1, 2, 3, 5, 6, 13, 14, 15, 7000] [1, 5] ?_
 refine nz ?_
 refine rS ?_
 exact GC
 have haw : ie e.ZF[k] = true := by first | simpa using hbc | (simp_all; done)
 have hla := MX haw
 refine bc ?_
 exact GC
 have hend : k = e.ZF.length := by omega
 refine bE ?_
 refine sT [1, 2, 3, 13, 14, 15, 7000] [1] ?_
 refine gz ?_
 exact (aI (by refine bI ?_; rw [MZ hok, hend, bY]) tI)
def XF {p1 p2 p5 p6 p7 p8 p9 p11 p12 p13 p14 p16 p17 p18 : Fl} {e : ay}  (hb : bB e ≤ 68719476736) : aN prog 17 [(true, [sl .v (e.Store.ZE.map (aO p1 p2)), val (vI e.Store.Now), val (vI e.ZJ), sl .v (e.Order.map an), sl .v (e.ZF.map (bq p5 p6 p7 p8 p9)), sl .v (e.Done.map (bN p11 p12 p13 p14)), sl .v (e.ZR.map (bF p16 p17 p18)), val (vI e.Steps)])] (aF [(false, [sl nk ((lz e).map kD)])]) := by
 refine sF func17 fun h0 w0 Fz0 => ?_
 refine sn 0 0 fun hl0_0 => ?_
 refine sn 0 3 fun hl0_3 => ?_
 refine sn 0 4 fun hl0_4 => ?_
 refine sn 0 5 fun hl0_5 => ?_
 refine sn 0 6 fun hl0_6 => ?_
 have hbu := hb
 simp only [bB, ix] at hbu
 refine JG ?_
 refine sT [1, 2] [1] ?_
 refine tf ?_
 refine re ?_
 refine sL [1, 2] [1] (fun k : Nat => k ≤ e.ZF.length ∧ (0 < k → aT e = true)) (fun k : Nat => [(3, RV.slc nk (((e.ZF.take k).map qF).map kD)), (4, RV.int (k : Int))]) (fun k : Nat => []) (fun k : Nat => e.ZF.length - k) 0 (by exact ⟨by omega, fun h => absurd h (Nat.lt_irrefl 0)⟩) (by exact aI (by exact rfl) (aI (by exact rfl) tI)) (by exact tI) ?_
 rintro k ⟨hk, ha⟩
 refine cI ?_
 refine oL ?_
 refine rM ?_
 refine cx 13 (fun ga sga => ?_) (fun ga sga => ?_)
 refine HN ?_
 refine rA ?_ (x := aK ga)
 refine sc (fun hba => ?_) (fun hba => ?_)
 have hok : aT e = true := by simp_all
 have hlt : k < e.ZF.length := (by first | omega | (simp_all; done) | (simp_all; omega))
 have haw0 := Kz hok hlt
 have hwm := fe (f := cS) hlt
 have hwa : cS e.ZF[k] = eM e.ZF[k].ZG + e.ZF[k].ZO.length + gm e.ZF[k].Rows := by simp only [cS, dP, bh]; omega
 have hef := gU hok
 have hac := Nb (hef.2.2.2.2.2.2.2.2.2.1 _ (List.getElem_mem hlt))
 have hsf := jd hef.1
 have hi0 : (itoa e.ZF[k].ZG.Id).length ≤ 21 := cy (by unfold aQ; omega)
 have hi1 : (itoa e.ZF[k].Time).length ≤ 21 := cy (by unfold aQ; omega)
 have hi2 : (itoa (e.ZF[k].ZO.length : Int)).length ≤ 21 := cy (by unfold aQ; omega)
 have hi3 : (itoa (e.ZF[k].Rows.length : Int)).length ≤ 21 := cy (by unfold aQ; omega)
 have htk : (e.ZF.take k).length = k := by rw [bg]; omega
 refine bw ?_
 refine sT [1, 2, 3, 4] [1] ?_
 refine qc ?_
 refine tc ?_
 refine sZ ?_
 refine sO [(1, _), (2, _), (3, _), (4, _), (5, _)] [(1, _), (5, (102, [val _, val _, sl _ _, sl _ _, val _, sl _ _, val _, val _, val _, sl _ _]))] ?_
 refine cv cd ?_
 refine dA 0 ?_ (x := lF iN)
 refine dA 1 ?_ (x := lF iB)
 refine dA 3 ?_ (x := lD [val _] aw)
 refine dA 7 ?_ (x := cL [(false, [val _])] [(false, [val _])] kJ (hs := by exact (kP (by unfold aQ; omega))))
 refine dA 15 ?_ (x := dN)
 refine dA 0 ?_ (x := lF qv)
 refine dA 32 ?_ (x := lD [val _] aw)
 refine dA 111 ?_ (x := cL [(false, [val _])] [(false, [val _])] kJ (hs := by exact (kP (by unfold aQ; omega))))
 refine wh ?_
 refine dA 0 ?_ (x := lF ls)
 refine dA 1024 ?_ (x := lD [sl .v _] bz)
 refine dA 3072 ?_ (x := lN aW)
 refine dA 7407 ?_ (x := cL [(false, [val _])] [(false, [val _])] kJ (hs := by exact (kP (by unfold aQ; omega))))
 refine Ae ?_
 refine dA 0 ?_ (x := lF nY)
 refine dA 65536 ?_ (x := lD [sl .v _] gV)
 refine dA 196608 ?_ (x := lN fQ)
 refine dA 474351 ?_ (x := cL [(false, [val _])] [(false, [val _])] kJ (hs := by exact (kP (by unfold aQ; omega))))
 refine dA 1048575 ?_ (x := dN)
 refine dA 2097151 ?_ (x := sA)
 refine ba ?_
 refine sS [1, 2, 3, 4, 5, 6] [1, 5] ?_
 refine rA ?_ (x := lD [sl .v _, val _, val _, sl .v _, sl .v _, sl .v _, sl .v _, val _] co)
 refine rM ?_
 refine rA ?_ (x := cL [(true, [sl _ _, val _, val _, sl _ _, sl _ _, sl _ _, sl _ _, val _]), (false, [val _])] [(true, [sl .v _, val _, val _, sl .v _, sl .v _, sl .v _, sl .v _, val _]), (false, [val _])] Bo (hs := by exact (Cy (by omega))))
 refine rA ?_ (x := nT)
 refine sc (fun hbb => ?_) (fun hbb => ?_)
 have haw : ie e.ZF[k] = false := by first | simpa using hbb | (simp_all; done)
 have hla := MY haw
 refine sG [1, 2, 3, 4, 5, 6] [1, 5] ?_
 refine nz ?_
 refine rS ?_
 exact GD
 have haw : ie e.ZF[k] = true := by first | simpa using hbb | (simp_all; done)
 have hla := MX haw
 refine bc ?_
 exact GD
 exact GE
 refine qd ?_
 exact GE
end Go.Proofs.YtmekkgdboplbjaaGreatDoor
