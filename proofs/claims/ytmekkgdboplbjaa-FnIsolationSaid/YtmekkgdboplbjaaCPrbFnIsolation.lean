/- What functions of the program compute. No condition. -/
import Derived.Test.YtmekkgdboplbjaaCZMFnIsolation
import Derived.Test.YtmekkgdboplbjaaCFcFnIsolation
import Derived.Test.YtmekkgdboplbjaaCEngFnIsolation
import Derived.Test.YtmekkgdboplbjaaCIdiFnIsolation
import Derived.KernelRfl
set_option linter.unusedVariables false
set_option linter.unusedSimpArgs false
namespace Go.Proofs.Ytmekkgdboplbjaa
open Go Go.RowKit M PV
set_option maxRecDepth 10000
attribute [local irreducible] PV.Lcl PV.LclR RV.Lcl
theorem impl_isAwake {p4 : Fl} {a : Active}  : SCall Try.prog 53 [(true, [val (vI a.Query.Id), val (vI a.Query.Tenant), sl .v (a.Query.Conds.map cCond), sl .v (a.Query.Out.map cInt), val (vI a.Time), sl .v (a.Todo.map cInt), val (vI a.Age), val (vI a.Sent), val (vI a.Cap), sl .v (a.Rows.map (cRow p4))])] (resRV [(false, [val (.bool (awake a))])]) := by
 refine sF Try.func53 fun h0 w0 Fz0 => ?_
 refine sn 0 2 fun hl0_2 => ?_
 refine sn 0 3 fun hl0_3 => ?_
 refine sn 0 5 fun hl0_5 => ?_
 refine sn 0 9 fun hl0_9 => ?_
 refine zf7 ?_
 refine zb8 ?_
 refine rA ?_ (x := lF fd_70_5)
 refine rA ?_ (x := lD [val _] ty_3)
 refine zc0 ?_
 refine cx 6 (fun ga sga => ?_) (fun ga sga => ?_)
 refine zc4 ?_
 exact zfn
 refine rB ga ?_ (x := lF fd_70_5)
 refine rB ga ?_ (x := lD [val _] ty_3)
 refine rB ga ?_ (x := lF fd_70_4)
 refine rB ga ?_ (x := lD [val _] ty_3)
 refine rB ga ?_ (x := B_gtr)
 refine rA ?_ (x := pkF ga)
 exact zfn
theorem impl_Participants {p1 p2 p5 p6 p7 p8 p9 p11 p12 p13 p14 p16 p17 p18 : Fl} {e : Engine}  (hb : wtEngine e ≤ 68719476736) : SCall Try.prog 23 [(true, [sl .v (e.Store.Segments.map (cVersionS p1 p2)), val (vI e.Store.Now), val (vI e.Cursor), sl .v (e.Order.map cInt), sl .v (e.Active.map (cActive p5 p6 p7 p8 p9)), sl .v (e.Done.map (cFinished p11 p12 p13 p14)), sl .v (e.Ledger.map (cCharge p16 p17 p18)), val (vI e.Steps)])] (resRV [(false, [sl (.own 3 1) ((parts e).map cInt)])]) := by
 refine sF Try.func23 fun h0 w0 Fz0 => ?_
 refine sn 0 0 fun hl0_0 => ?_
 refine sn 0 3 fun hl0_3 => ?_
 refine sn 0 4 fun hl0_4 => ?_
 refine sn 0 5 fun hl0_5 => ?_
 refine sn 0 6 fun hl0_6 => ?_
 refine zem ?_
 refine rA ?_ (x := loc_const (.inr rfl) (by decide) (ok_nil (t := 3) (e := 1)))
 refine sT [1, 2] [1] ?_
 refine zfo ?_
 refine sw_seq ?_
 refine sS [1, 2, 3] [1] ?_
 refine zfp ?_
 refine rA ?_ (x := nT)
 refine sc (fun hba => ?_) (fun hba => ?_)
 have hok : okEngine e = false := by simpa using hba
 refine sS [1, 2, 3] [1] ?_
 refine zdc ?_
 exact (aI (by refine slc_eq ?_; rw [parts_no hok]; rfl) tI)
 have hok : okEngine e = true := by simpa using hba
 have hef := eng_facts hok
 refine zbr ?_
 refine sS [1, 2, 3] [1] ?_
 refine zeq ?_
 refine sP [1, 2, 3, 12, 13, 14] [1] ?_
 refine sL [1, 2, 12, 13] [1] (fun k : Nat => k ≤ e.Active.length) (fun k : Nat => [(3, RV.slc (.own 3 1) ((partsOf e (e.Active.take k)).map cInt)), (14, RV.int (k : Int))]) (fun k : Nat => []) (fun k : Nat => e.Active.length - k) 0 (by omega) (by exact aI (by exact rfl) (aI (by exact rfl) (tI))) (by exact ⟨⟩) ?_
 rintro k hk
 refine za5 ?_
 refine sc (fun hbb => ?_) (fun hbb => ?_)
 have hlt : k < e.Active.length := by omega
 have hpl := partsOf_len (e := e) (l := e.Active.take k)
 rw [List.length_take] at hpl
 refine za6 ?_
 refine sT [1, 2, 3, 12, 13, 14] [1] ?_
 refine zer ?_
 refine zfk ?_
 refine sw_seq ?_
 refine sO [(1, _), (2, _), (3, _), (5, _), (12, _), (13, _), (14, _)] [(1, _), (5, (70, [val _, val _, sl _ _, sl _ _, val _, sl _ _, val _, val _, val _, sl _ _]))] ?_
 refine sw_reg ?_
 refine rA ?_ (x := lD [val _, val _, sl .v _, sl .v _, val _, sl .v _, val _, val _, val _, sl .v _] ty_70)
 refine rA ?_ (x := cL [(true, [val _, val _, sl _ _, sl _ _, val _, sl _ _, val _, val _, val _, sl _ _])] [(true, [val _, val _, sl .v _, sl .v _, val _, sl .v _, val _, val _, val _, sl .v _])] c_53 (hs := by exact impl_isAwake))
 refine rM ?_
 refine cx 20 (fun ga sga => ?_) (fun ga sga => ?_)
 refine rB ga ?_ (x := lF fd_70_2)
 refine rB ga ?_ (x := lD [sl .v _] ty_27)
 refine rB ga ?_ (x := lF fd_32_1)
 refine rB ga ?_ (x := lD [val _] ty_3)
 refine rB ga ?_ (x := cL [(false, [sl _ _]), (false, [val _])] [(false, [sl .v _]), (false, [val _])] c_54 (hs := by exact impl_hasInt))
 refine rA ?_ (x := pkT ga)
 refine sc (fun hbc => ?_) (fun hbc => ?_)
 have hc : partP e e.Active[k] = true := by simp_all [partP]
 refine sG [1, 2, 3, 5, 12, 13, 14] [1, 5] ?_
 refine rA ?_ (x := tM)
 refine rA ?_ (x := lF fd_70_0)
 refine zfq ?_
 refine zfr ?_
 refine rA ?_ (x := tA)
 exact zfs
 exact zft
 refine zc2 ?_
 exact zft
 have hend : k = e.Active.length := by omega
 refine sw_exit ?_
 refine sT [1, 2, 3, 12, 13, 14] [1] ?_
 refine zdc ?_
 exact (aI (by refine slc_eq ?_; rw [parts_yes hok, hend, List.take_length]) tI)
theorem impl_FindActive {p1 p2 p5 p6 p7 p8 p9 p11 p12 p13 p14 p16 p17 p18 : Fl} {e : Engine} {id : Int}  : SCall Try.prog 21 [(true, [sl .v (e.Store.Segments.map (cVersionS p1 p2)), val (vI e.Store.Now), val (vI e.Cursor), sl .v (e.Order.map cInt), sl .v (e.Active.map (cActive p5 p6 p7 p8 p9)), sl .v (e.Done.map (cFinished p11 p12 p13 p14)), sl .v (e.Ledger.map (cCharge p16 p17 p18)), val (vI e.Steps)]), (false, [val (vI id)])] (resRV [(false, [val (vI (findA e.Active id))])]) := by
 refine sF Try.func21 fun h0 w0 Fz0 => ?_
 refine sn 0 0 fun hl0_0 => ?_
 refine sn 0 3 fun hl0_3 => ?_
 refine sn 0 4 fun hl0_4 => ?_
 refine sn 0 5 fun hl0_5 => ?_
 refine sn 0 6 fun hl0_6 => ?_
 refine zem ?_
 refine zbz ?_
 refine sT [1, 2, 4] [2] ?_
 refine zeq ?_
 refine sP [1, 2, 4, 8, 9, 10] [2] ?_
 refine sL [1, 2, 8, 9] [2] (fun k : Nat => k ≤ e.Active.length ∧ (e.Active.take k).any (idP id) = false) (fun k : Nat => [(10, RV.int (k : Int))]) (fun k : Nat => []) (fun k : Nat => e.Active.length - k) 0 (by exact ⟨by omega, by simp⟩) (by exact aI (by exact rfl) (tI)) (by exact ⟨⟩) ?_
 rintro k ⟨hk, ha⟩
 refine za5 ?_
 refine sc (fun hba => ?_) (fun hba => ?_)
 have hlt : k < e.Active.length := by omega
 refine za6 ?_
 refine sT [1, 2, 8, 9, 10] [2] ?_
 refine rM ?_
 refine zer ?_
 refine rX ?_ (x := (loc_alloc (by decide) z_70 zo_70))
 refine rS ?_
 refine zes ?_
 refine sO [(1, _), (2, _), (5, _), (6, _), (8, _), (9, _), (10, _)] [(2, _), (6, (70, [val _, val _, sl _ _, sl _ _, val _, sl _ _, val _, val _, val _, sl _ _]))] ?_
 refine sw_reg ?_
 refine rA ?_ (x := lF fd_70_0)
 refine zfq ?_
 refine rM ?_
 refine rA ?_ (x := B_eql)
 refine sc (fun hbb => ?_) (fun hbb => ?_)
 have hy : idP id e.Active[k] = true := by first | (simp_all [idP]; done) | simpa [idP] using hbb
 refine sS [1, 2, 5, 6, 8, 9, 10] [2, 6] ?_
 refine rM ?_
 refine zfu ?_
 exact (aI (by refine int_eq ?_; rw [findA_yes hlt ha hy]) tI)
 have hno : idP id e.Active[k] = false := by first | (simp_all [idP]; done) | simpa [idP] using hbb
 refine sw_skip ?_
 refine sG [1, 2, 5, 6, 8, 9, 10] [2, 6] ?_
 refine zaa ?_
 refine nx (k + 1) (by exact ⟨by omega, any_succ ha hlt hno⟩)
 have hend : k = e.Active.length := by omega
 rw [hend, List.take_length] at ha
 refine sw_exit ?_
 refine sT [1, 2, 8, 9, 10] [2] ?_
 refine za9 ?_
 exact (aI (by refine int_eq ?_; rw [findA_no ha]) tI)
end Go.Proofs.Ytmekkgdboplbjaa
