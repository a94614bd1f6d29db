/- What functions of the program compute. No condition. -/
import Derived.Test.YtmekkgdboplbjaaGreatDoorCT0
set_option linter.all false
namespace Go.Proofs.YtmekkgdboplbjaaGreatDoor
open Go Go.RowKit M PV Tryz
set_option maxRecDepth 10000
attribute [local irreducible] PV.Lcl PV.LclR RV.Lcl
def Vc {p1 p2 : Fl} {s : Store}  (hb : cq s ≤ 68719476736) : aN prog 71 [(true, [sl .v (s.ZE.map (aO p1 p2)), val (vI s.Now)])] (aF [(false, [val (vI ((lY s : Nat) : Int))])]) := by
 refine sF func71 fun h0 w0 Fz0 => ?_
 refine sn 0 0 fun hl0_0 => ?_
 refine kt ?_
 refine tE ?_
 refine eD ?_
 refine sS [1, 2, 3] [1] ?_
 refine oG ?_
 refine eK ?_
 refine sP [1, 2, 3, 7, 8, 9] [1] ?_
 refine sL [1, 2, 7, 8] [1] (fun k : Nat => k ≤ s.ZE.length) (fun k : Nat => [(3, RV.int (qu s k : Nat)), (9, RV.int (k : Int))]) (fun k : Nat => []) (fun k : Nat => s.ZE.length - k) 0 (by omega) (by exact aI (by exact rfl) (aI (by exact rfl) tI)) (by exact tI) ?_
 rintro k hk
 refine eL ?_
 refine sc (fun hba => ?_) (fun hba => ?_)
 have hlt : k < s.ZE.length := by omega
 have hcl := Rt (s := s) (k + 1) hlt
 rw [KB hlt] at hcl
 have hal : lY s ≤ cq s := nM s
 refine bw ?_
 refine sT [1, 2, 3, 7, 8, 9] [1] ?_
 refine qW ?_
 refine rA ?_ (x := vA false [sl .v _])
 refine sG [1, 2, 3, 5, 7, 8, 9] [1] ?_
 refine rM ?_
 refine pQ ?_
 refine kr ?_
 refine sG [1, 2, 3, 5, 7, 8, 9] [1] ?_
 refine fc ?_
 refine nx (k + 1) (by omega) (e := (by exact aI (by exact bA (by rw [KB hlt]; omega)) (aI (by exact rfl) tI)))
 have hend : k = s.ZE.length := by omega
 refine bE ?_
 refine sT [1, 2, 3, 7, 8, 9] [1] ?_
 refine rM ?_
 refine df ?_
 exact (aI (by refine bA ?_; unfold qu; rw [hend, AV]; rfl) tI)
def Vd {p1 p2 : Fl} {s : Store}  (hb : cq s ≤ 68719476736) : aN prog 73 [(true, [sl .v (s.ZE.map (aO p1 p2)), val (vI s.Now)])] (aF [(false, [val (vI ((lY s : Nat) : Int))])]) := by
 refine sF func73 fun h0 w0 Fz0 => ?_
 refine sn 0 0 fun hl0_0 => ?_
 have hal := nM s
 refine kt ?_
 refine tE ?_
 refine zO ?_
 refine rA ?_ (x := lN cX)
 refine rS ?_
 exact qQ
def Ve {p1 p2 p5 p6 p7 p8 p9 p11 p12 p13 p14 p16 p17 p18 : Fl} {e : ay}  (hb : bB e ≤ 68719476736) : iu prog gl 18 [(true, [sl .v (e.Store.ZE.map (aO p1 p2)), val (vI e.Store.Now), val (vI e.ZJ), sl .v (e.Order.map an), sl .v (e.ZF.map (bq p5 p6 p7 p8 p9)), sl .v (e.Done.map (bN p11 p12 p13 p14)), sl .v (e.ZR.map (bF p16 p17 p18)), val (vI e.Steps)])] (aF [(false, [val (.string (B (ud e)))])]) := by
 refine nt (rs := [(false, [val (.string (B (ud e)))])]) func18 rfl (nl rfl) (by exact lq) ?_
 intro h0 w0 Fz0
 refine sn 0 0 fun hl0_0 => ?_
 refine sn 0 3 fun hl0_3 => ?_
 refine sn 0 4 fun hl0_4 => ?_
 refine sn 0 5 fun hl0_5 => ?_
 refine sn 0 6 fun hl0_6 => ?_
 have hbu := hb
 simp only [bB] at hbu
 refine zip ?_
 refine eD ?_
 refine sT [1, 2, 7000] [1] ?_
 refine zw ?_
 refine rA ?_ (x := nT)
 refine sc (fun hba => ?_) (fun hba => ?_)
 have hok : aT e = false := by simpa using hba
 refine sS [1, 2, 7000] [1] ?_
 exact FZ
 have hok : aT e = true := by simpa using hba
 have hef := gU hok
 obtain ⟨a1, a2, a3, a4, a5, a6⟩ := jd hef.1
 have hal : lY e.Store ≤ cq e.Store := nM e.Store
 have hi0 : (itoa e.Steps).length ≤ 21 := cy (by unfold aQ; omega)
 have hi1 : (itoa e.ZJ).length ≤ 21 := cy (by unfold aQ; omega)
 have hi2 : (itoa e.Store.Now).length ≤ 21 := cy (by unfold aQ; omega)
 have hi3 : (itoa (lY e.Store : Int)).length ≤ 21 := cy (by unfold aQ; omega)
 have hi4 : (itoa (e.ZF.length : Int)).length ≤ 21 := cy (by unfold aQ; omega)
 have hi5 : (itoa (e.Done.length : Int)).length ≤ 21 := cy (by unfold aQ; omega)
 have hjl : (dD (nS e) [32]).length ≤ 1000 := KC hi0 hi1 hi2 hi3 hi4 hi5
 refine eA ?_
 refine sP [1, 2, 7000] [1] ?_
 refine cv cd ?_
 refine dA 0 ?_ (x := lF mN)
 refine IX ?_
 refine dA 0 ?_ (x := lF kN)
 refine dA 8 ?_ (x := lD [val _] aw)
 refine dA 31 ?_ (x := gL [(false, [val _])] [(false, [val _])] iM (hs := by exact (iQ (by unfold aQ; omega))))
 refine dA 0 ?_ (x := lF fB)
 refine dA 64 ?_ (x := lF fG)
 refine dA 192 ?_ (x := lD [val _] aw)
 refine dA 511 ?_ (x := gL [(false, [val _])] [(false, [val _])] iM (hs := by exact (iQ (by unfold aQ; omega))))
 refine dA 0 ?_ (x := lF fB)
 refine dA 1024 ?_ (x := lD [sl .v _, val _] cF)
 refine dA 4095 ?_ (x := cL [(true, [sl _ _, val _])] [(true, [sl .v _, val _])] Tw (hs := by exact (Vc (by omega))))
 refine dA 8191 ?_ (x := gL [(false, [val _])] [(false, [val _])] iM (hs := by exact (iQ (by unfold aQ; omega))))
 refine dA 0 ?_ (x := lF eQ)
 refine dA 16384 ?_ (x := lD [sl .v _] eG)
 refine dA 49152 ?_ (x := lN ct)
 refine dA 131071 ?_ (x := gL [(false, [val _])] [(false, [val _])] iM (hs := by exact (iQ (by unfold aQ; omega))))
 refine dA 0 ?_ (x := lF mM)
 refine dA 262144 ?_ (x := lD [sl .v _] mQ)
 refine dA 786432 ?_ (x := lN kO)
 refine dA 2097151 ?_ (x := gL [(false, [val _])] [(false, [val _])] iM (hs := by exact (iQ (by unfold aQ; omega))))
 refine dA 4194303 ?_ (x := bm (qs := [(false, [val _]), (false, [val _]), (false, [val _]), (false, [val _]), (false, [val _]), (false, [val _]), (false, [val _]), (false, [val _]), (false, [val _]), (false, [val _]), (false, [val _]), (false, [val _])]) (by decide) ji oh (by decide) rfl rfl rfl rfl rfl (by exact nl rfl) (by exact (aI (aJ rfl) (aI (by exact tI) (aI (aJ rfl) (aI (by exact tI) (aI (aJ rfl) (aI (by exact tI) (aI (aJ rfl) (aI (by exact tI) (aI (aJ rfl) (aI (by exact tI) (aI (aJ rfl) (aI (by exact tI) tI))))))))))))) rfl)
 refine dA 8388607 ?_ (x := tA)
 refine sS [1, 2, 3, 7000] [1] ?_
 refine rA ?_ (x := vM false [sl .v _])
 refine rA ?_ (x := uL (qs := [(false, [sl _ _]), (false, [val _])]) (as_ := [(false, [sl .v _]), (false, [val _])]) (by decide) xg (by exact (aI (by exact tI) (aI (aJ rfl) tI))) (by exact (aI (aI rfl (ao.cons (PV.to_eqv rfl) ao.nil)) (aI (aI rfl (aq ao.nil)) tI))) (by exact (xt (xs := nS e) (sep := [32]) (by exact nl rfl) (by exact Nat.le_trans hjl (by decide)))))
 refine rS ?_
 exact Ga
def Vf {p1 p2 p5 p6 p7 p8 p9 p11 p12 p13 p14 p16 p17 p18 : Fl} {e : ay}  (hb : bB e ≤ 68719476736) : aN prog 19 [(true, [sl .v (e.Store.ZE.map (aO p1 p2)), val (vI e.Store.Now), val (vI e.ZJ), sl .v (e.Order.map an), sl .v (e.ZF.map (bq p5 p6 p7 p8 p9)), sl .v (e.Done.map (bN p11 p12 p13 p14)), sl .v (e.ZR.map (bF p16 p17 p18)), val (vI e.Steps)])] (aF [(false, [val (.string (B (ud e)))])]) := by
 refine sF func19 fun h0 w0 Fz0 => ?_
 refine sn 0 0 fun hl0_0 => ?_
 refine sn 0 3 fun hl0_3 => ?_
 refine sn 0 4 fun hl0_4 => ?_
 refine sn 0 5 fun hl0_5 => ?_
 refine sn 0 6 fun hl0_6 => ?_
 have hbu := hb
 simp only [bB] at hbu
 refine zip ?_
 refine iY ?_
 refine zx ?_
 refine rA ?_ (x := nT)
 refine sc (fun hba => ?_) (fun hba => ?_)
 have hok : aT e = false := by simpa using hba
 refine sS [1, 2] [1] ?_
 exact FZ
 have hok : aT e = true := by simpa using hba
 have hef := gU hok
 obtain ⟨a1, a2, a3, a4, a5, a6⟩ := jd hef.1
 have hal : lY e.Store ≤ cq e.Store := nM e.Store
 have hi0 : (itoa e.Steps).length ≤ 21 := cy (by unfold aQ; omega)
 have hi1 : (itoa e.ZJ).length ≤ 21 := cy (by unfold aQ; omega)
 have hi2 : (itoa e.Store.Now).length ≤ 21 := cy (by unfold aQ; omega)
 have hi3 : (itoa (lY e.Store : Int)).length ≤ 21 := cy (by unfold aQ; omega)
 have hi4 : (itoa (e.ZF.length : Int)).length ≤ 21 := cy (by unfold aQ; omega)
 have hi5 : (itoa (e.Done.length : Int)).length ≤ 21 := cy (by unfold aQ; omega)
 have hjl : (dD (nS e) [32]).length ≤ 1000 := KC hi0 hi1 hi2 hi3 hi4 hi5
 refine eA ?_
 refine sP [1, 2] [1] ?_
 refine cv cd ?_
 refine dA 0 ?_ (x := lF mN)
 refine IY ?_
 refine dA 7 ?_ (x := dN)
 refine dA 15 ?_ (x := dN)
 refine dA 0 ?_ (x := lF kN)
 refine dA 32 ?_ (x := lD [val _] aw)
 refine dA 103 ?_ (x := cL [(false, [val _])] [(false, [val _])] kJ (hs := by exact (kP (by unfold aQ; omega))))
 refine wh ?_
 refine dA 0 ?_ (x := lF fB)
 refine dA 1024 ?_ (x := lF fG)
 refine dA 3072 ?_ (x := lD [val _] aw)
 refine dA 7399 ?_ (x := cL [(false, [val _])] [(false, [val _])] kJ (hs := by exact (kP (by unfold aQ; omega))))
 refine Ae ?_
 refine dA 0 ?_ (x := lF fB)
 refine dA 65536 ?_ (x := lD [sl .v _, val _] cF)
 refine dA 212199 ?_ (x := cL [(true, [sl _ _, val _])] [(true, [sl .v _, val _])] Tx (hs := by exact (Vd (by omega))))
 refine dA 474343 ?_ (x := cL [(false, [val _])] [(false, [val _])] kJ (hs := by exact (kP (by unfold aQ; omega))))
 refine dA 1048575 ?_ (x := dN)
 refine dA 2097151 ?_ (x := dN)
 refine dA 0 ?_ (x := lF eQ)
 refine dA 4194304 ?_ (x := lD [sl .v _] eG)
 refine dA 12582912 ?_ (x := lN ct)
 refine dA 30358759 ?_ (x := cL [(false, [val _])] [(false, [val _])] kJ (hs := by exact (kP (by unfold aQ; omega))))
 refine dA 67108863 ?_ (x := dN)
 refine dA 134217727 ?_ (x := dN)
 refine dA 0 ?_ (x := lF mM)
 refine dA 268435456 ?_ (x := lD [sl .v _] mQ)
 refine dA 805306368 ?_ (x := lN kO)
 refine dA 1942961383 ?_ (x := cL [(false, [val _])] [(false, [val _])] kJ (hs := by exact (kP (by unfold aQ; omega))))
 refine dA 4294967295 ?_ (x := dN)
 refine dA 8589934591 ?_ (x := sA)
 exact Ga
end Go.Proofs.YtmekkgdboplbjaaGreatDoor
