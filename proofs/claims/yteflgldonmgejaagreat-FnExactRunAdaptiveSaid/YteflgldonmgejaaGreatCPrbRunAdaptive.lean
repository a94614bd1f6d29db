/- What functions of the program compute. No condition. -/
import Derived.Test.YteflgldonmgejaaGreatCZMRunAdaptive
import Derived.Test.YteflgldonmgejaaGreatCFcRunAdaptive
import Derived.Test.YteflgldonmgejaaGreatCEngRunAdaptive
import Derived.Test.YteflgldonmgejaaGreatCIdiRunAdaptive
import Derived.KernelRfl
set_option linter.unusedVariables false
set_option linter.unusedSimpArgs false
namespace Go.Proofs.YteflgldonmgejaaGreat
open Go Go.RowKit M PV
set_option maxRecDepth 10000
attribute [local irreducible] PV.Lcl PV.LclR RV.Lcl
theorem FPrb_pl_66 : placesI Tryz.prog 66 = some [(0, 1), (1, 1)] := by kernel_rfl
theorem impl_isAwake {p4 : Fl} {a : Active}  : SCall Tryz.prog 194 [(true, [val (vI a.Query.Id), val (vI a.Query.Tenant), sl .v (a.Query.Conds.map cCond), sl .v (a.Query.Out.map cInt), val (vI a.Time), sl .v (a.Todo.map cInt), val (vI a.Age), val (vI a.Sent), val (vI a.Cap), sl .v (a.Rows.map (cRow p4))])] (resRV [(false, [val (.bool (awake a))])]) := by
 refine sF Tryz.func194 fun h0 w0 Fz0 => ?_
 refine sn 0 2 fun hl0_2 => ?_
 refine sn 0 3 fun hl0_3 => ?_
 refine sn 0 5 fun hl0_5 => ?_
 refine sn 0 9 fun hl0_9 => ?_
 refine zaq ?_
 refine zgw ?_
 refine zdh ?_
 refine zio ?_
 refine cx 6 (fun ga sga => ?_) (fun ga sga => ?_)
 refine zhp ?_
 exact zof
 refine rB ga ?_ (x := lF fd_142_5)
 refine rB ga ?_ (x := lD [val _] ty_3)
 refine rB ga ?_ (x := lF fd_142_4)
 refine rB ga ?_ (x := lD [val _] ty_3)
 refine rB ga ?_ (x := B_gtr)
 refine rA ?_ (x := pkF ga)
 exact zof
theorem spec_IsAwake {p1 p2 p5 p6 p7 p8 p9 p11 p12 p13 p14 p16 p17 p18 : Fl} {e : Engine} {i : Int}  (hb : wtEngine e ≤ 68719476736) : SCall Tryz.prog 178 [(true, [sl .v (e.Store.Segments.map (cVersionS p1 p2)), val (vI e.Store.Now), val (vI e.Cursor), sl .v (e.Order.map cInt), sl .v (e.Active.map (cActive p5 p6 p7 p8 p9)), sl .v (e.Done.map (cFinished p11 p12 p13 p14)), sl .v (e.Ledger.map (cCharge p16 p17 p18)), val (vI e.Steps)]), (false, [val (vI i)])] (resRV [(false, [val (.bool (isAwakeAt e i))])]) := by
 refine sF Tryz.func178 fun h0 w0 Fz0 => ?_
 refine sn 0 0 fun hl0_0 => ?_
 refine sn 0 3 fun hl0_3 => ?_
 refine sn 0 4 fun hl0_4 => ?_
 refine sn 0 5 fun hl0_5 => ?_
 refine sn 0 6 fun hl0_6 => ?_
 refine zay ?_
 refine znl ?_
 refine zog ?_
 refine zha ?_
 refine cx 9 (fun ga sga => ?_) (fun ga sga => ?_)
 refine zja ?_
 exact zoh
 refine rB ga ?_ (x := sM)
 refine rB ga ?_ (x := lF fd_40_3)
 refine rB ga ?_ (x := lD [sl .v _] ty_36)
 refine rB ga ?_ (x := lN sl_36)
 refine rB ga ?_ (x := B_sub)
 refine zk3 ?_
 refine sc (fun hba => ?_) (fun hba => ?_)
 exact zoh
 have hok : okEngine e = true ∧ inB i 0 (e.Active.length - 1) = true := by first | (simp_all; done) | (simp_all; omega)
 have hin := hok.2
 simp only [inB, Bool.and_eq_true, decide_eq_true_eq] at hin
 have hil : i.toNat < e.Active.length := by omega
 have hgd := gDt_ (d := a0_) hil
 refine za8 ?_
 refine zdo ?_
 refine rM ?_
 refine rA ?_ (x := loc_index (k := i.toNat) (by decide) sl_36 (by exact ⟨⟩) (by first | rfl | omega) (by exact getm2 hil rfl) (by exact rfl))
 refine rA ?_ (x := lE [val _, val _, sl .v _, sl .v _, val _, sl .v _, val _, val _, val _, sl .v _] ty_142)
 refine znb ?_
 refine sw_seq ?_
 refine sO [(1, _), (2, _), (4, _), (5, _)] [(2, _), (5, (142, [val _, val _, sl _ _, sl _ _, val _, sl _ _, val _, val _, val _, sl _ _]))] ?_
 refine sw_reg ?_
 refine zdh ?_
 refine zio ?_
 refine cx 26 (fun gb sgb => ?_) (fun gb sgb => ?_)
 refine zhg ?_
 exact zoi
 refine rB gb ?_ (x := lF fd_142_4)
 refine rB gb ?_ (x := lD [val _] ty_3)
 refine rB gb ?_ (x := lF fd_142_5)
 refine rB gb ?_ (x := lD [val _] ty_3)
 refine rB gb ?_ (x := B_lss)
 refine rA ?_ (x := pkF gb)
 exact zoi
theorem spec_Participants {p1 p2 p5 p6 p7 p8 p9 p11 p12 p13 p14 p16 p17 p18 : Fl} {e : Engine}  (hb : wtEngine e ≤ 68719476736) : SCall Tryz.prog 103 [(true, [sl .v (e.Store.Segments.map (cVersionS p1 p2)), val (vI e.Store.Now), val (vI e.Cursor), sl .v (e.Order.map cInt), sl .v (e.Active.map (cActive p5 p6 p7 p8 p9)), sl .v (e.Done.map (cFinished p11 p12 p13 p14)), sl .v (e.Ledger.map (cCharge p16 p17 p18)), val (vI e.Steps)])] (resRV [(false, [sl (.own 3 1) ((parts e).map cInt)])]) := by
 refine sF Tryz.func103 fun h0 w0 Fz0 => ?_
 refine sn 0 0 fun hl0_0 => ?_
 refine sn 0 3 fun hl0_3 => ?_
 refine sn 0 4 fun hl0_4 => ?_
 refine sn 0 5 fun hl0_5 => ?_
 refine sn 0 6 fun hl0_6 => ?_
 refine zay ?_
 refine zoj ?_
 refine zj4 ?_
 refine sS [1, 2, 3] [1] ?_
 refine zhx ?_
 refine sP [1, 2, 3, 4] [1] ?_
 refine sL [1, 2] [1] (fun k : Nat => k ≤ e.Active.length ∧ (0 < k → okEngine e = true)) (fun k : Nat => [(3, RV.slc (.own 3 1) ((partsOf e (e.Active.take k)).map cInt)), (4, RV.int (k : Int))]) (fun k : Nat => []) (fun k : Nat => e.Active.length - k) 0 (by exact ⟨by omega, fun h => absurd h (Nat.lt_irrefl 0)⟩) (by exact aI (by exact rfl) (aI (by exact rfl) (tI))) (by exact ⟨⟩) ?_
 rintro k ⟨hk, ha⟩
 refine zg2 ?_
 refine zmf ?_
 refine rM ?_
 refine cx 11 (fun ga sga => ?_) (fun ga sga => ?_)
 refine rB ga ?_ (x := lD [sl .v _, val _, val _, sl .v _, sl .v _, sl .v _, sl .v _, val _] ty_40)
 refine rB ga ?_ (x := cL [(true, [sl _ _, val _, val _, sl _ _, sl _ _, sl _ _, sl _ _, val _])] [(true, [sl .v _, val _, val _, sl .v _, sl .v _, sl .v _, sl .v _, val _])] c_42 (hs := by exact (spec_IsEngine (by omega))))
 refine rA ?_ (x := pkT ga)
 refine sc (fun hba => ?_) (fun hba => ?_)
 have hok : okEngine e = true := by simp_all
 have hlt : k < e.Active.length := (by first | omega | (simp_all; done) | (simp_all; omega))
 have haw := isAwake_at hok hlt
 have hef := eng_facts hok
 have hpl := partsOf_len (e := e) (l := e.Active.take k)
 rw [List.length_take] at hpl
 refine zdx ?_
 refine sQ [1, 2, 3, 4] [1] ?_
 refine zmg ?_
 refine dA 0 ?_ (x := sM)
 refine dA 3 ?_ (x := cL [(true, [sl _ _, val _, val _, sl _ _, sl _ _, sl _ _, sl _ _, val _]), (false, [val _])] [(true, [sl .v _, val _, val _, sl .v _, sl .v _, sl .v _, sl .v _, val _]), (false, [val _])] c_178 (hs := by exact (spec_IsAwake (by omega))))
 refine dA 7 ?_ (x := sM)
 refine dx 20 (fun gb sgb => ?_) (fun gb sgb => ?_)
 refine dB 15 gb ?_ (x := lF fd_40_3)
 refine dB 31 gb ?_ (x := lD [sl .v _] ty_36)
 refine dB 15 gb ?_ (x := sM)
 refine dB 127 gb ?_ (x := loc_index (by decide) sl_36 (by exact ⟨⟩) (by exact rfl) (by exact getm2 (by omega) rfl) (by exact rfl))
 refine dB 255 gb ?_ (x := loc_efield (by decide) fd_142_2 (by exact nl rfl))
 refine dB 511 gb ?_ (x := lE [sl .v _] ty_25)
 refine dB 15 gb ?_ (x := lF fd_40_1)
 refine dB 1039 gb ?_ (x := lD [val _] ty_3)
 refine dB 4095 gb ?_ (x := cL [(false, [sl _ _]), (false, [val _])] [(false, [sl .v _]), (false, [val _])] c_173 (hs := by exact spec_HasMember))
 refine dA 8191 ?_ (x := pkT gb)
 refine sc (fun hbb => ?_) (fun hbb => ?_)
 have hc : partP e e.Active[k] = true := by simp_all [partP]
 refine sG [1, 2, 3, 4] [1] ?_
 refine rA ?_ (x := tM)
 refine zdo ?_
 refine zoe ?_
 refine zf5 ?_
 refine zjy ?_
 exact zok
 exact zol
 refine dF 15 gb ?_
 refine dF 31 gb ?_
 refine dF 15 gb ?_
 refine dF 127 gb ?_
 refine dF 255 gb ?_
 refine dF 511 gb ?_
 refine dF 15 gb ?_
 refine dF 1039 gb ?_
 refine dF 4095 gb ?_
 refine dA 8191 ?_ (x := pkF gb)
 refine scF ?_
 exact zol
 exact zom
 refine zfz ?_
 refine scF ?_
 exact zom
theorem impl_Participants {p1 p2 p5 p6 p7 p8 p9 p11 p12 p13 p14 p16 p17 p18 : Fl} {e : Engine}  (hb : wtEngine e ≤ 68719476736) : SCall Tryz.prog 120 [(true, [sl .v (e.Store.Segments.map (cVersionS p1 p2)), val (vI e.Store.Now), val (vI e.Cursor), sl .v (e.Order.map cInt), sl .v (e.Active.map (cActive p5 p6 p7 p8 p9)), sl .v (e.Done.map (cFinished p11 p12 p13 p14)), sl .v (e.Ledger.map (cCharge p16 p17 p18)), val (vI e.Steps)])] (resRV [(false, [sl (.own 3 1) ((parts e).map cInt)])]) := by
 refine sF Tryz.func120 fun h0 w0 Fz0 => ?_
 refine sn 0 0 fun hl0_0 => ?_
 refine sn 0 3 fun hl0_3 => ?_
 refine sn 0 4 fun hl0_4 => ?_
 refine sn 0 5 fun hl0_5 => ?_
 refine sn 0 6 fun hl0_6 => ?_
 refine zay ?_
 refine zoj ?_
 refine zj4 ?_
 refine sS [1, 2, 3] [1] ?_
 refine zon ?_
 refine rA ?_ (x := nT)
 refine sc (fun hba => ?_) (fun hba => ?_)
 have hok : okEngine e = false := by simpa using hba
 refine sS [1, 2, 3] [1] ?_
 refine zhz ?_
 exact (aI (by refine slc_eq ?_; rw [parts_no hok]; rfl) tI)
 have hok : okEngine e = true := by simpa using hba
 have hef := eng_facts hok
 refine zf2 ?_
 refine sS [1, 2, 3] [1] ?_
 refine zm0 ?_
 refine sP [1, 2, 3, 12, 13, 14] [1] ?_
 refine sL [1, 2, 12, 13] [1] (fun k : Nat => k ≤ e.Active.length) (fun k : Nat => [(3, RV.slc (.own 3 1) ((partsOf e (e.Active.take k)).map cInt)), (14, RV.int (k : Int))]) (fun k : Nat => []) (fun k : Nat => e.Active.length - k) 0 (by omega) (by exact aI (by exact rfl) (aI (by exact rfl) (tI))) (by exact ⟨⟩) ?_
 rintro k hk
 refine zfm ?_
 refine sc (fun hbb => ?_) (fun hbb => ?_)
 have hlt : k < e.Active.length := by omega
 have hpl := partsOf_len (e := e) (l := e.Active.take k)
 rw [List.length_take] at hpl
 refine zed ?_
 refine sT [1, 2, 3, 12, 13, 14] [1] ?_
 refine zm1 ?_
 refine znb ?_
 refine sw_seq ?_
 refine sO [(1, _), (2, _), (3, _), (5, _), (12, _), (13, _), (14, _)] [(1, _), (5, (142, [val _, val _, sl _ _, sl _ _, val _, sl _ _, val _, val _, val _, sl _ _]))] ?_
 refine sw_reg ?_
 refine rA ?_ (x := lD [val _, val _, sl .v _, sl .v _, val _, sl .v _, val _, val _, val _, sl .v _] ty_142)
 refine rA ?_ (x := cL [(true, [val _, val _, sl _ _, sl _ _, val _, sl _ _, val _, val _, val _, sl _ _])] [(true, [val _, val _, sl .v _, sl .v _, val _, sl .v _, val _, val _, val _, sl .v _])] c_194 (hs := by exact impl_isAwake))
 refine rM ?_
 refine cx 20 (fun ga sga => ?_) (fun ga sga => ?_)
 refine rB ga ?_ (x := lF fd_142_2)
 refine rB ga ?_ (x := lD [sl .v _] ty_25)
 refine rB ga ?_ (x := lF fd_40_1)
 refine rB ga ?_ (x := lD [val _] ty_3)
 refine rB ga ?_ (x := cL [(false, [sl _ _]), (false, [val _])] [(false, [sl .v _]), (false, [val _])] c_189 (hs := by exact impl_hasInt))
 refine rA ?_ (x := pkT ga)
 refine sc (fun hbc => ?_) (fun hbc => ?_)
 have hc : partP e e.Active[k] = true := by simp_all [partP]
 refine sG [1, 2, 3, 5, 12, 13, 14] [1, 5] ?_
 refine rA ?_ (x := tM)
 refine rA ?_ (x := lF fd_142_0)
 refine zd4 ?_
 refine zj6 ?_
 exact zoo
 exact zop
 refine zfz ?_
 refine scF ?_
 exact zop
 have hend : k = e.Active.length := by omega
 refine sw_exit ?_
 refine sT [1, 2, 3, 12, 13, 14] [1] ?_
 refine zhz ?_
 exact (aI (by refine slc_eq ?_; rw [parts_yes hok, hend, List.take_length]) tI)
theorem impl_FindActive {p1 p2 p5 p6 p7 p8 p9 p11 p12 p13 p14 p16 p17 p18 : Fl} {e : Engine} {id : Int}  : SCall Tryz.prog 121 [(true, [sl .v (e.Store.Segments.map (cVersionS p1 p2)), val (vI e.Store.Now), val (vI e.Cursor), sl .v (e.Order.map cInt), sl .v (e.Active.map (cActive p5 p6 p7 p8 p9)), sl .v (e.Done.map (cFinished p11 p12 p13 p14)), sl .v (e.Ledger.map (cCharge p16 p17 p18)), val (vI e.Steps)]), (false, [val (vI id)])] (resRV [(false, [val (vI (findA e.Active id))])]) := by
 refine sF Tryz.func121 fun h0 w0 Fz0 => ?_
 refine sn 0 0 fun hl0_0 => ?_
 refine sn 0 3 fun hl0_3 => ?_
 refine sn 0 4 fun hl0_4 => ?_
 refine sn 0 5 fun hl0_5 => ?_
 refine sn 0 6 fun hl0_6 => ?_
 refine zay ?_
 refine znl ?_
 refine zm0 ?_
 refine sP [1, 2, 4, 8, 9, 10] [2] ?_
 refine sL [1, 2, 8, 9] [2] (fun k : Nat => k ≤ e.Active.length ∧ (e.Active.take k).any (idP id) = false) (fun k : Nat => [(10, RV.int (k : Int))]) (fun k : Nat => []) (fun k : Nat => e.Active.length - k) 0 (by exact ⟨by omega, by simp⟩) (by exact aI (by exact rfl) (tI)) (by exact ⟨⟩) ?_
 rintro k ⟨hk, ha⟩
 refine zfm ?_
 refine sc (fun hba => ?_) (fun hba => ?_)
 have hlt : k < e.Active.length := by omega
 refine zed ?_
 refine sT [1, 2, 8, 9, 10] [2] ?_
 refine rM ?_
 refine zm1 ?_
 refine rX ?_ (x := (loc_alloc (by decide) z_142 zo_142))
 refine rS ?_
 refine zm2 ?_
 refine sO [(1, _), (2, _), (5, _), (6, _), (8, _), (9, _), (10, _)] [(2, _), (6, (142, [val _, val _, sl _ _, sl _ _, val _, sl _ _, val _, val _, val _, sl _ _]))] ?_
 refine sw_reg ?_
 refine rA ?_ (x := lF fd_142_0)
 refine zd4 ?_
 refine rM ?_
 refine rA ?_ (x := B_eql)
 refine sc (fun hbb => ?_) (fun hbb => ?_)
 have hy : idP id e.Active[k] = true := by first | (simp_all [idP]; done) | simpa [idP] using hbb
 refine sS [1, 2, 5, 6, 8, 9, 10] [2, 6] ?_
 exact zoq
 have hno : idP id e.Active[k] = false := by first | (simp_all [idP]; done) | simpa [idP] using hbb
 refine sw_skip ?_
 refine sG [1, 2, 5, 6, 8, 9, 10] [2, 6] ?_
 refine zfp ?_
 exact zmw
 have hend : k = e.Active.length := by omega
 rw [hend, List.take_length] at ha
 refine sw_exit ?_
 refine sT [1, 2, 8, 9, 10] [2] ?_
 exact zor
theorem spec_FindActive {p1 p2 p5 p6 p7 p8 p9 p11 p12 p13 p14 p16 p17 p18 : Fl} {e : Engine} {id : Int}  : SCall Tryz.prog 104 [(true, [sl .v (e.Store.Segments.map (cVersionS p1 p2)), val (vI e.Store.Now), val (vI e.Cursor), sl .v (e.Order.map cInt), sl .v (e.Active.map (cActive p5 p6 p7 p8 p9)), sl .v (e.Done.map (cFinished p11 p12 p13 p14)), sl .v (e.Ledger.map (cCharge p16 p17 p18)), val (vI e.Steps)]), (false, [val (vI id)])] (resRV [(false, [val (vI (findA e.Active id))])]) := by
 refine sF Tryz.func104 fun h0 w0 Fz0 => ?_
 refine sn 0 0 fun hl0_0 => ?_
 refine sn 0 3 fun hl0_3 => ?_
 refine sn 0 4 fun hl0_4 => ?_
 refine sn 0 5 fun hl0_5 => ?_
 refine sn 0 6 fun hl0_6 => ?_
 refine zay ?_
 refine znl ?_
 refine zhx ?_
 refine sP [1, 2, 4, 5] [2] ?_
 refine sL [1, 2] [2] (fun k : Nat => k ≤ e.Active.length ∧ (e.Active.take k).any (idP id) = false) (fun k : Nat => [(5, RV.int (k : Int))]) (fun k : Nat => []) (fun k : Nat => e.Active.length - k) 0 (by exact ⟨by omega, by simp⟩) (by exact aI (by exact rfl) (tI)) (by exact ⟨⟩) ?_
 rintro k ⟨hk, ha⟩
 refine zg2 ?_
 refine zmf ?_
 refine sc (fun hba => ?_) (fun hba => ?_)
 have hlt : k < e.Active.length := by omega
 refine zed ?_
 refine sT [1, 2, 5] [2] ?_
 refine zdo ?_
 refine zoe ?_
 refine zf5 ?_
 refine rA ?_ (x := lE [val _] ty_3)
 refine rM ?_
 refine rA ?_ (x := B_eql)
 refine sc (fun hbb => ?_) (fun hbb => ?_)
 have hy : idP id e.Active[k] = true := by first | (simp_all [idP]; done) | simpa [idP] using hbb
 refine sS [1, 2, 5] [2] ?_
 exact zoq
 have hno : idP id e.Active[k] = false := by first | (simp_all [idP]; done) | simpa [idP] using hbb
 refine sw_skip ?_
 refine sG [1, 2, 5] [2] ?_
 exact zkh
 have hend : k = e.Active.length := by omega
 rw [hend, List.take_length] at ha
 refine sw_exit ?_
 refine sT [1, 2, 5] [2] ?_
 exact zor
theorem impl_probed {p1 p2 p5 p6 p7 p8 p9 p11 p12 p13 p14 p16 p17 p18 : Fl} {e : Engine}  (hok : okEngine e = true) (hb : wtEngine e ≤ 68719476736) : SCall Tryz.prog 51 [(true, [sl .v (e.Store.Segments.map (cVersionS p1 p2)), val (vI e.Store.Now), val (vI e.Cursor), sl .v (e.Order.map cInt), sl .v (e.Active.map (cActive p5 p6 p7 p8 p9)), sl .v (e.Done.map (cFinished p11 p12 p13 p14)), sl .v (e.Ledger.map (cCharge p16 p17 p18)), val (vI e.Steps)])] (resRV [(true, [sl (.own 65 4) ((buildIdx (partQ e.Active (parts e))).Queries.map (cQuery (.own 193 3) (.own 3 1))), sl (.own 205 1) ((buildIdx (partQ e.Active (parts e))).Fields.map (cSpanS (.own 234 3) (.own 3 1)))]), (false, [sl (.own 66 2) ((rowsAt e).map (cRow (.own 3 1)))])]) := by
 refine sF Tryz.func51 fun h0 w0 Fz0 => ?_
 refine sn 0 0 fun hl0_0 => ?_
 refine sn 0 3 fun hl0_3 => ?_
 refine sn 0 4 fun hl0_4 => ?_
 refine sn 0 5 fun hl0_5 => ?_
 refine sn 0 6 fun hl0_6 => ?_
 have hef := eng_facts hok
 have hpl := parts_len (e := e)
 have hcl : e.Cursor.toNat < e.Store.Segments.length := hef.2.2.2.1
 have hws := wt_mem (f := wtVersionS) hcl
 have hgd := gDt_ (d := ([] : List Version)) hcl
 rw [hgd] at hws
 have hs4 := (sto_facts hef.1).2.2.2.2.1 _ (List.getElem_mem hcl)
 rw [hgd] at hs4
 have hws2 : wtVersionS (e.Store.Segments.getD e.Cursor.toNat []) = (e.Store.Segments.getD e.Cursor.toNat []).length + ((e.Store.Segments.getD e.Cursor.toNat []).map wtVersion).sum := rfl
 have hbu := hb
 simp only [wtEngine, wtStore, wtVersionSS, wtInt] at hbu
 refine zay ?_
 refine zos ?_
 refine sT [1, 2, 3] [1, 2] ?_
 refine zko ?_
 refine sw_seq ?_
 refine sS [1, 2, 3, 4] [1, 2] ?_
 refine rA ?_ (x := lD [sl .v _, val _, val _, sl .v _, sl .v _, sl .v _, sl .v _, val _] ty_40)
 refine rA ?_ (x := cL [(true, [sl _ _, val _, val _, sl _ _, sl _ _, sl _ _, sl _ _, val _])] [(true, [sl .v _, val _, val _, sl .v _, sl .v _, sl .v _, sl .v _, val _])] c_120 (hs := by exact (impl_Participants (by omega))))
 refine rA ?_ (x := lN sl_25)
 refine zfl ?_
 refine sP [1, 2, 3, 4, 12, 13, 14] [1, 2] ?_
 refine sL [1, 2, 3, 12, 13] [1, 2] (fun k : Nat => k ≤ (parts e).length) (fun k : Nat => [(4, RV.slc (.own 65 4) ((partQ e.Active ((parts e).take k)).map (cQuery .v .v))), (14, RV.int (k : Int))]) (fun k : Nat => []) (fun k : Nat => (parts e).length - k) 0 (by omega) (by exact aI (by exact rfl) (aI (by exact rfl) (tI))) (by exact ⟨⟩) ?_
 rintro k hk
 refine zfm ?_
 refine sc (fun hba => ?_) (fun hba => ?_)
 have hlt : k < (parts e).length := by omega
 have hpk : (parts e)[k] ∈ partsOf e e.Active := by rw [← parts_yes hok]; exact List.getElem_mem hlt
 have hfp := findA_part hpk
 have hql : (partQ e.Active ((parts e).take k)).length = k := by unfold partQ; rw [List.length_map, List.length_take]; omega
 refine zed ?_
 refine sT [1, 2, 3, 4, 12, 13, 14] [1, 2] ?_
 refine zfn ?_
 refine sP [1, 2, 3, 4, 6, 12, 13, 14] [1, 2] ?_
 refine zn4 ?_
 refine dA 0 ?_ (x := lF fd_40_3)
 refine zot ?_
 refine dA 0 ?_ (x := sM)
 refine dA 24 ?_ (x := cL [(true, [sl _ _, val _, val _, sl _ _, sl _ _, sl _ _, sl _ _, val _]), (false, [val _])] [(true, [sl .v _, val _, val _, sl .v _, sl .v _, sl .v _, sl .v _, val _]), (false, [val _])] c_121 (hs := by exact impl_FindActive))
 refine dA 62 ?_ (x := loc_index (k := (findA e.Active (parts e)[k]).toNat) (by decide) sl_36 (by exact ⟨⟩) (by omega) (by exact getm2 hfp.2 (by rw [gDt_ (d := a0_) hfp.2])) (by exact rfl))
 refine dA 126 ?_ (x := loc_efield (by decide) fd_142_0 (by exact nl rfl))
 refine dA 254 ?_ (x := lE [val _, val _, sl .v _, sl .v _] ty_65)
 refine dA 510 ?_ (x := loc_bslice (qs := [(true, [val _, val _, sl _ _, sl _ _])]) (by decide) sl_89 z_65 (by decide) rfl rfl rfl rfl rfl (by exact nl rfl) (by exact (aI (by exact ⟨⟩) tI)) rfl)
 refine dA 1023 ?_ (x := loc_append (by decide) sl_89 z_65 rfl rfl (by decide) rfl (by simp only [List.length_map, List.length_append, List.length_cons, List.length_nil]; omega) (by simp only [List.length_map, List.length_append, List.length_cons, List.length_nil]; omega))
 refine dA 2047 ?_ (x := tA)
 refine sG [1, 2, 3, 4, 6, 12, 13, 14] [1, 2] ?_
 refine zfp ?_
 exact zou
 have hend : k = (parts e).length := by omega
 rw [hend, List.take_length]
 refine sw_exit ?_
 refine sT [1, 2, 3, 4, 12, 13, 14] [1, 2] ?_
 refine zgn ?_
 refine sw_seq ?_
 refine sS [1, 2, 3, 4, 7, 12, 13, 14] [1, 2] ?_
 refine rA ?_ (x := lF fd_40_0)
 refine zdk ?_
 refine zov ?_
 refine rA ?_ (x := lE [sl .v _] ty_149)
 refine rA ?_ (x := lN sl_149)
 refine zfl ?_
 refine sP [1, 2, 3, 4, 7, 12, 13, 14, 37, 38, 39] [1, 2] ?_
 refine sL [1, 2, 3, 4, 12, 13, 14, 37, 38] [1, 2] (fun k : Nat => k ≤ (e.Store.Segments.getD e.Cursor.toNat []).length) (fun k : Nat => [(7, RV.slc (.own 66 2) ((((e.Store.Segments.getD e.Cursor.toNat []).take k).map rowOfV).map (cRow (.own 3 1)))), (39, RV.int (k : Int))]) (fun k : Nat => []) (fun k : Nat => (e.Store.Segments.getD e.Cursor.toNat []).length - k) 0 (by omega) (by exact aI (by exact rfl) (aI (by exact rfl) (tI))) (by exact ⟨⟩) ?_
 rintro k hk
 refine zfm ?_
 refine sc (fun hbb => ?_) (fun hbb => ?_)
 have hlt : k < (e.Store.Segments.getD e.Cursor.toNat []).length := by omega
 have hwm2 := wt_mem (f := wtVersion) hlt
 have hrl : (((e.Store.Segments.getD e.Cursor.toNat []).take k).map rowOfV).length = k := by rw [List.length_map, List.length_take]; omega
 have hrl2 : ((e.Store.Segments.getD e.Cursor.toNat []).take k).length = k := by rw [List.length_take]; omega
 refine zed ?_
 refine sT [1, 2, 3, 4, 7, 12, 13, 14, 37, 38, 39] [1, 2] ?_
 refine zic ?_
 refine zid ?_
 refine sO [(1, _), (2, _), (3, _), (4, _), (7, _), (9, _), (12, _), (13, _), (14, _), (37, _), (38, _), (39, _)] [(1, _), (2, _), (9, (151, [val _, sl _ _, val _, val _]))] ?_
 refine sw_reg ?_
 refine rA ?_ (x := tM)
 refine zif ?_
 refine zgp ?_
 refine rA ?_ (x := tA)
 refine sG [1, 2, 3, 4, 7, 9, 12, 13, 14, 37, 38, 39] [1, 2, 9] ?_
 refine zfp ?_
 exact zow
 have hend : k = (e.Store.Segments.getD e.Cursor.toNat []).length := by omega
 rw [hend, List.take_length]
 refine sw_exit ?_
 refine sT [1, 2, 3, 4, 7, 12, 13, 14, 37, 38, 39] [1, 2] ?_
 refine rA ?_ (x := vM false [sl .v _])
 refine rA ?_ (x := cL [(false, [sl _ _])] [(false, [sl .v _])] c_123 (hs := by exact impl_BuildIndex))
 exact zox
theorem spec_l19Now {p1 p2 p5 p6 p7 p8 p9 p11 p12 p13 p14 p16 p17 p18 : Fl} {e : Engine}  (hok : okEngine e = true) (hb : wtEngine e ≤ 68719476736) : SCall Tryz.prog 43 [(true, [sl .v (e.Store.Segments.map (cVersionS p1 p2)), val (vI e.Store.Now), val (vI e.Cursor), sl .v (e.Order.map cInt), sl .v (e.Active.map (cActive p5 p6 p7 p8 p9)), sl .v (e.Done.map (cFinished p11 p12 p13 p14)), sl .v (e.Ledger.map (cCharge p16 p17 p18)), val (vI e.Steps)])] (resRV [(true, [sl (.own 65 4) ((buildIdx (partQ e.Active (parts e))).Queries.map (cQuery (.own 193 3) (.own 3 1))), sl (.own 205 1) ((buildIdx (partQ e.Active (parts e))).Fields.map (cSpanS (.own 234 3) (.own 3 1)))]), (false, [sl (.own 66 2) ((rowsAt e).map (cRow .v))])]) := by
 refine sF Tryz.func43 fun h0 w0 Fz0 => ?_
 refine sn 0 0 fun hl0_0 => ?_
 refine sn 0 3 fun hl0_3 => ?_
 refine sn 0 4 fun hl0_4 => ?_
 refine sn 0 5 fun hl0_5 => ?_
 refine sn 0 6 fun hl0_6 => ?_
 have hef := eng_facts hok
 have hpl := parts_len (e := e)
 have hcl : e.Cursor.toNat < e.Store.Segments.length := hef.2.2.2.1
 have hws := wt_mem (f := wtVersionS) hcl
 have hgd := gDt_ (d := ([] : List Version)) hcl
 rw [hgd] at hws
 have hs4 := (sto_facts hef.1).2.2.2.2.1 _ (List.getElem_mem hcl)
 rw [hgd] at hs4
 have hws2 : wtVersionS (e.Store.Segments.getD e.Cursor.toNat []) = (e.Store.Segments.getD e.Cursor.toNat []).length + ((e.Store.Segments.getD e.Cursor.toNat []).map wtVersion).sum := rfl
 have hbu := hb
 simp only [wtEngine, wtStore, wtVersionSS, wtInt] at hbu
 refine zay ?_
 refine zos ?_
 refine sT [1, 2, 3] [1, 2] ?_
 refine zko ?_
 refine sS [1, 2, 3, 4] [1, 2] ?_
 refine zoy ?_
 refine zi5 ?_
 refine sS [1, 2, 3, 4, 5] [1, 2] ?_
 refine zhx ?_
 refine sP [1, 2, 3, 4, 5, 6] [1, 2] ?_
 refine sL [1, 2, 3, 5] [1, 2] (fun k : Nat => k ≤ (parts e).length) (fun k : Nat => [(4, RV.slc (.own 65 4) ((partQ e.Active ((parts e).take k)).map (cQuery .v .v))), (6, RV.int (k : Int))]) (fun k : Nat => []) (fun k : Nat => (parts e).length - k) 0 (by omega) (by exact aI (by exact rfl) (aI (by exact rfl) (tI))) (by exact ⟨⟩) ?_
 rintro k hk
 refine zb2 ?_
 refine sc (fun hba => ?_) (fun hba => ?_)
 have hlt : k < (parts e).length := by omega
 have hpk : (parts e)[k] ∈ partsOf e e.Active := by rw [← parts_yes hok]; exact List.getElem_mem hlt
 have hfp := findA_part hpk
 have hql : (partQ e.Active ((parts e).take k)).length = k := by unfold partQ; rw [List.length_map, List.length_take]; omega
 refine zed ?_
 refine sQ [1, 2, 3, 4, 5, 6] [1, 2] ?_
 refine zn4 ?_
 refine dA 0 ?_ (x := lF fd_40_3)
 refine zot ?_
 refine zck ?_
 refine zcl ?_
 refine dA 248 ?_ (x := cL [(true, [sl _ _, val _, val _, sl _ _, sl _ _, sl _ _, sl _ _, val _]), (false, [val _])] [(true, [sl .v _, val _, val _, sl .v _, sl .v _, sl .v _, sl .v _, val _]), (false, [val _])] c_104 (hs := by exact spec_FindActive))
 refine dA 510 ?_ (x := loc_index (k := (findA e.Active (parts e)[k]).toNat) (by decide) sl_36 (by exact ⟨⟩) (by omega) (by exact getm2 hfp.2 (by rw [gDt_ (d := a0_) hfp.2])) (by exact rfl))
 refine dA 1022 ?_ (x := loc_efield (by decide) fd_142_0 (by exact nl rfl))
 refine dA 2046 ?_ (x := lE [val _, val _, sl .v _, sl .v _] ty_65)
 refine dA 4094 ?_ (x := loc_bslice (qs := [(true, [val _, val _, sl _ _, sl _ _])]) (by decide) sl_89 z_65 (by decide) rfl rfl rfl rfl rfl (by exact nl rfl) (by exact (aI (by exact ⟨⟩) tI)) rfl)
 refine dA 8191 ?_ (x := loc_append (by decide) sl_89 z_65 rfl rfl (by decide) rfl (by simp only [List.length_map, List.length_append, List.length_cons, List.length_nil]; omega) (by simp only [List.length_map, List.length_append, List.length_cons, List.length_nil]; omega))
 refine dA 16383 ?_ (x := tA)
 refine sG [1, 2, 3, 4, 5, 6] [1, 2] ?_
 exact zoz
 have hend : k = (parts e).length := by omega
 rw [hend, List.take_length]
 refine sw_exit ?_
 refine sT [1, 2, 3, 4, 5, 6] [1, 2] ?_
 refine zgn ?_
 refine sS [1, 2, 3, 4, 5, 6, 7] [1, 2] ?_
 refine rA ?_ (x := lF fd_40_0)
 refine zdk ?_
 refine zov ?_
 refine rA ?_ (x := lE [sl .v _] ty_149)
 refine zib ?_
 refine sS [1, 2, 3, 4, 5, 6, 7, 8] [1, 2] ?_
 refine zhx ?_
 refine sP [1, 2, 3, 4, 5, 6, 7, 8, 9] [1, 2] ?_
 refine sL [1, 2, 3, 4, 5, 6, 8] [1, 2] (fun k : Nat => k ≤ (e.Store.Segments.getD e.Cursor.toNat []).length) (fun k : Nat => [(7, RV.slc (.own 66 2) ((((e.Store.Segments.getD e.Cursor.toNat []).take k).map rowOfV).map (cRow .v))), (9, RV.int (k : Int))]) (fun k : Nat => []) (fun k : Nat => (e.Store.Segments.getD e.Cursor.toNat []).length - k) 0 (by omega) (by exact aI (by exact rfl) (aI (by exact rfl) (tI))) (by exact ⟨⟩) ?_
 rintro k hk
 refine zae ?_
 refine zd7 ?_
 refine sc (fun hbb => ?_) (fun hbb => ?_)
 have hlt : k < (e.Store.Segments.getD e.Cursor.toNat []).length := by omega
 have hwm2 := wt_mem (f := wtVersion) hlt
 have hrl : (((e.Store.Segments.getD e.Cursor.toNat []).take k).map rowOfV).length = k := by rw [List.length_map, List.length_take]; omega
 have hrl2 : ((e.Store.Segments.getD e.Cursor.toNat []).take k).length = k := by rw [List.length_take]; omega
 refine zed ?_
 refine sQ [1, 2, 3, 4, 5, 6, 7, 8, 9] [1, 2] ?_
 refine zn4 ?_
 refine zck ?_
 refine zn5 ?_
 refine zkg ?_
 refine zn6 ?_
 refine dA 960 ?_ (x := lE [sl .v _] ty_25)
 refine dA 2046 ?_ (x := loc_build (qs := [(false, [val _]), (false, [sl _ _])]) (cs := [val _, sl _ _]) (by decide) z_66 zo_66 FPrb_pl_66 (by exact rfl) (by exact (aI (by exact ⟨⟩) (aI (by exact ⟨⟩) tI))) rfl (by exact rfl))
 refine dA 4094 ?_ (x := loc_bslice (qs := [(true, [val _, sl _ _])]) (by decide) sl_93 z_66 (by decide) rfl rfl rfl rfl rfl (by exact nl rfl) (by exact (aI (by exact ⟨⟩) tI)) rfl)
 refine dA 8191 ?_ (x := loc_append (by decide) sl_93 z_66 rfl rfl (by decide) rfl (by simp only [List.length_map, List.length_append, List.length_cons, List.length_nil]; omega) (by simp only [List.length_map, List.length_append, List.length_cons, List.length_nil]; omega))
 refine dA 16383 ?_ (x := tA)
 refine sG [1, 2, 3, 4, 5, 6, 7, 8, 9] [1, 2] ?_
 refine ze0 ?_
 exact zow
 have hend : k = (e.Store.Segments.getD e.Cursor.toNat []).length := by omega
 rw [hend, List.take_length]
 refine sw_exit ?_
 refine sT [1, 2, 3, 4, 5, 6, 7, 8, 9] [1, 2] ?_
 refine zp0 ?_
 exact zox
theorem impl_WorkOf {p1 p2 p4 p5 p7 : Fl} {x : Index} {l : List Row} {o : List Int}  (hl : l.length ≤ 1048576) : SCall Tryz.prog 52 [(true, [sl .v (x.Queries.map (cQuery p1 p2)), sl .v (x.Fields.map (cSpanS p4 p5))]), (false, [sl .v (l.map (cRow p7))]), (false, [sl .v (o.map cInt)])] (resRV [(false, [val (vI (workOf x l o))])]) := by
 refine sF Tryz.func52 fun h0 w0 Fz0 => ?_
 refine sn 0 0 fun hl0_0 => ?_
 refine sn 0 1 fun hl0_1 => ?_
 refine sj 1 fun hl1 => ?_
 refine sj 2 fun hl2 => ?_
 refine zky ?_
 refine rK ?_
 refine sT [1, 2, 3, 6] [3] ?_
 refine zee ?_
 refine sS [1, 2, 3, 6, 7] [3] ?_
 refine zp1 ?_
 refine zha ?_
 refine cx 15 (fun ga sga => ?_) (fun ga sga => ?_)
 refine zja ?_
 exact zp2
 refine zp3 ?_
 refine zi1 ?_
 refine sc (fun hba => ?_) (fun hba => ?_)
 exact zp2
 have hxo : (okIndex x && okOrder o) = true := by simp_all
 obtain ⟨hx, ho⟩ := Bool.and_eq_true_iff.1 hxo
 refine zf2 ?_
 refine sS [1, 2, 3, 6, 7] [3] ?_
 refine zd8 ?_
 refine zfl ?_
 refine sP [1, 2, 3, 6, 7, 21, 22, 23] [3] ?_
 refine sL [1, 2, 3, 6, 21, 22] [3] (fun k : Nat => k ≤ l.length) (fun k : Nat => [(7, RV.int (workTo x o (l.take k))), (23, RV.int (k : Int))]) (fun k : Nat => []) (fun k : Nat => l.length - k) 0 (by omega) (by exact aI (by exact rfl) (aI (by exact rfl) (tI))) (by exact ⟨⟩) ?_
 rintro k hk
 refine zfm ?_
 refine sc (fun hbb => ?_) (fun hbb => ?_)
 have hlt : k < l.length := by omega
 have hwl := workTo_le hx ho (l.take k)
 rw [List.length_take] at hwl
 have hw1 := workOne_le hx ho l[k]
 refine zed ?_
 refine sT [1, 2, 3, 6, 7, 21, 22, 23] [3] ?_
 refine zg8 ?_
 refine zg9 ?_
 refine sw_seq ?_
 refine sO [(1, _), (2, _), (3, _), (6, _), (7, _), (9, _), (21, _), (22, _), (23, _)] [(3, _), (9, (66, [val _, sl _ _]))] ?_
 refine sw_reg ?_
 refine zga ?_
 refine sc (fun hbc => ?_) (fun hbc => ?_)
 have hr : okRow l[k] = true := by simpa using hbc
 have hwo : workOne x o l[k] = (probeAll x l[k] o).2 := if_pos hr
 refine sS [1, 2, 3, 6, 7, 9, 21, 22, 23] [3, 9] ?_
 refine rA ?_ (x := lD [sl .v _, sl .v _] ty_92)
 refine rA ?_ (x := lD [val _, sl .v _] ty_66)
 refine rA ?_ (x := vM false [sl .v _])
 refine rA ?_ (x := cL [(true, [sl _ _, sl _ _]), (true, [val _, sl _ _]), (false, [sl _ _])] [(true, [sl .v _, sl .v _]), (true, [val _, sl .v _]), (false, [sl .v _])] c_126 (hs := by exact (impl_probe (x := x) (r := l[k]) (o := o) hx hr ho)))
 refine rA ?_ (x := tM)
 refine rA ?_ (x := loc_extract (cs := [sl _ _]) (qs := [sl .v _]) (by decide) (by exact rfl) (by exact (ToL.cons PV.to_none ToL.nil)) (by exact (BorL.cons (bor_sl _) BorL.nil)))
 refine rA ?_ (x := loc_extractb (cs := [val _]) (by decide) (by exact rfl) (by exact (BorL.cons (bor_val _) BorL.nil)))
 refine rA ?_ (x := tA)
 refine rS ?_
 refine sG [1, 2, 3, 6, 7, 9, 10, 11, 21, 22, 23] [3, 9] ?_
 refine rM ?_
 refine ze0 ?_
 refine sG [1, 2, 3, 6, 7, 9, 10, 11, 21, 22, 23] [3, 9] ?_
 exact zp4
 have hr : okRow l[k] = false := by simpa using hbc
 have hwo : workOne x o l[k] = 0 := if_neg (by rw [hr]; simp)
 refine sw_skip ?_
 refine sG [1, 2, 3, 6, 7, 9, 21, 22, 23] [3, 9] ?_
 exact zp4
 have hend : k = l.length := by omega
 refine sw_exit ?_
 refine sT [1, 2, 3, 6, 7, 21, 22, 23] [3] ?_
 refine za3 ?_
 exact (aI (by refine int_eq ?_; rw [hend, List.take_length]; exact (if_pos hxo).symm) tI)
theorem spec_WorkOf {p1 p2 p4 p5 p7 : Fl} {x : Index} {l : List Row} {o : List Int}  (hl : l.length ≤ 1048576) : SCall Tryz.prog 44 [(true, [sl .v (x.Queries.map (cQuery p1 p2)), sl .v (x.Fields.map (cSpanS p4 p5))]), (false, [sl .v (l.map (cRow p7))]), (false, [sl .v (o.map cInt)])] (resRV [(false, [val (vI (workOf x l o))])]) := by
 refine sF Tryz.func44 fun h0 w0 Fz0 => ?_
 refine sn 0 0 fun hl0_0 => ?_
 refine sn 0 1 fun hl0_1 => ?_
 refine sj 1 fun hl1 => ?_
 refine sj 2 fun hl2 => ?_
 refine zky ?_
 refine rK ?_
 refine sT [1, 2, 3, 6] [3] ?_
 refine zee ?_
 refine sS [1, 2, 3, 6, 7] [3] ?_
 refine zhx ?_
 refine sP [1, 2, 3, 6, 7, 8] [3] ?_
 refine sL [1, 2, 3, 6] [3] (fun k : Nat => k ≤ l.length ∧ (0 < k → (okIndex x && okOrder o) = true)) (fun k : Nat => [(7, RV.int (workTo x o (l.take k))), (8, RV.int (k : Int))]) (fun k : Nat => []) (fun k : Nat => l.length - k) 0 (by exact ⟨by omega, fun h => absurd h (Nat.lt_irrefl 0)⟩) (by exact aI (by exact rfl) (aI (by exact rfl) (tI))) (by exact ⟨⟩) ?_
 rintro k ⟨hk, ha⟩
 refine zae ?_
 refine zd9 ?_
 refine rM ?_
 refine cx 15 (fun ga sga => ?_) (fun ga sga => ?_)
 refine zp5 ?_
 refine zgy ?_
 refine cx 19 (fun gb sgb => ?_) (fun gb sgb => ?_)
 refine rB gb ?_ (x := vM false [sl .v _])
 refine rB gb ?_ (x := cL [(false, [sl _ _])] [(false, [sl .v _])] c_98 (hs := by exact spec_l6Order))
 refine rA ?_ (x := pkT gb)
 refine sc (fun hba => ?_) (fun hba => ?_)
 have hxo : (okIndex x && okOrder o) = true := by simp_all
 obtain ⟨hx, ho⟩ := Bool.and_eq_true_iff.1 hxo
 have hlt : k < l.length := (by first | omega | (simp_all; done) | (simp_all; omega))
 have hwl := workTo_le hx ho (l.take k)
 rw [List.length_take] at hwl
 have hw1 := workOne_le hx ho l[k]
 refine zed ?_
 refine sT [1, 2, 3, 6, 7, 8] [3] ?_
 refine zgf ?_
 refine zgg ?_
 refine sc (fun hbb => ?_) (fun hbb => ?_)
 have hr : okRow l[k] = true := by simpa using hbb
 have hwo : workOne x o l[k] = (probeAll x l[k] o).2 := if_pos hr
 refine sw_seq ?_
 refine sP [1, 2, 3, 6, 7, 8] [3] ?_
 refine zp6 ?_
 refine dX 0 ?_ (x := (loc_copy (r' := RV.sv false [sl .v _]) (.inl rfl) (by decide) (by exact Cp.sv (ToL.cons PV.to_none ToL.nil) (BorL.cons (bor_sl _) BorL.nil))))
 refine dX 0 ?_ (x := (loc_copy (.inl rfl) (by decide) (by exact Cp.sc)))
 refine dX 6 ?_ (x := (loc_index (by decide) sl_93 (by exact ⟨⟩) (by exact rfl) (by exact getm2 (by omega) rfl) (by exact rfl)))
 refine dX 14 ?_ (x := (loc_eload (qs := [val _, sl .v _]) (by decide) ty_66 (fun h => nomatch h) (by exact nl rfl) (by exact (ToL.cons (PV.To.refl _) (ToL.cons PV.to_none ToL.nil))) (by exact (BorL.cons (bor_val _) (BorL.cons (bor_sl _) BorL.nil)))))
 refine dX 0 ?_ (x := (loc_copy (r' := RV.sv false [sl .v _]) (.inl rfl) (by decide) (by exact Cp.sv (ToL.cons PV.to_none ToL.nil) (BorL.cons (bor_sl _) BorL.nil))))
 refine mid_call (G := 2000) (qs := [(true, [sl _ _, sl _ _]), (true, [val _, sl _ _]), (false, [sl _ _])]) (as_ := [(true, [sl .v _, sl .v _]), (true, [val _, sl .v _]), (false, [sl .v _])]) (by decide) c_108 (by exact ⟨rfl, rfl, rfl, ⟨⟩⟩) (by exact (aI (by exact ⟨⟩) (aI (by exact ⟨⟩) (aI (by exact ⟨⟩) tI)))) (by exact (aI (aI rfl (ToL.cons PV.to_none (ToL.cons PV.to_none ToL.nil))) (aI (aI rfl (ToL.cons (PV.To.refl _) (ToL.cons PV.to_none ToL.nil))) (aI (aI rfl (ToL.cons PV.to_none ToL.nil)) tI)))) (by exact (spec_l6Probe (x := x) (r := l[k]) (o := o) hx hr ho)) (by kernel_rfl) (by kernel_rfl) fun uss hU0 => ?_
 obtain ⟨us0, r0, rfl, hl0, hR0, hU1⟩ := RelU.cons hU0
 obtain ⟨u5_0_0, rfl⟩ := us_1 hl0
 obtain ⟨us1, r1, rfl, hl1, hR1, hU2⟩ := RelU.cons hU1
 obtain ⟨u5_1_0, rfl⟩ := us_1 hl1
 obtain rfl := relval hR1 (j := 0) rfl rfl
 obtain rfl := RelU.nil hU2
 clear hR0 hU0 hR1 hU1 hU2
 refine zp7 ?_
 refine zp8 ?_
 refine sw_backS (s := 9) (G := 2000) (by exact rfl) (by exact (Nm.val Nm.nil)) rfl (by decide) (by exact rfl) ?_
 refine sw_backS (s := 10) (G := 2001) (by exact rfl) (by exact (Nm.val Nm.nil)) rfl (by decide) (by exact rfl) ?_
 refine sG [1, 2, 3, 6, 7, 8, 9, 10] [3] ?_
 refine rM ?_
 refine ze0 ?_
 refine sG [1, 2, 3, 6, 7, 8, 9, 10] [3] ?_
 exact zp9
 have hr : okRow l[k] = false := by simpa using hbb
 have hwo : workOne x o l[k] = 0 := if_neg (by rw [hr]; simp)
 refine sw_skip ?_
 refine sG [1, 2, 3, 6, 7, 8] [3] ?_
 exact zp9
 exact zpa
 refine zh3 ?_
 refine scF ?_
 exact zpa
 refine zh4 ?_
 refine RunS.cases (s := 19) rfl (fun g7 => nomatch g7) (fun g7 => ?_)
 refine zf g7 ?_
 refine rA ?_ (x := pkF g7)
 refine scF ?_
 exact zpa
end Go.Proofs.YteflgldonmgejaaGreat
