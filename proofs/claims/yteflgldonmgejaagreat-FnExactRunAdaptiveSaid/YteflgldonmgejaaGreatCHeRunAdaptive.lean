/- What functions of the program compute. No condition. -/
import Derived.Test.YteflgldonmgejaaGreatCZMRunAdaptive
import Derived.Test.YteflgldonmgejaaGreatCFcRunAdaptive
import Derived.Test.YteflgldonmgejaaGreatCDb
import Derived.KernelRfl
set_option linter.unusedVariables false
set_option linter.unusedSimpArgs false
namespace Go.Proofs.YteflgldonmgejaaGreat
open Go Go.RowKit M PV
set_option maxRecDepth 10000
attribute [local irreducible] PV.Lcl PV.LclR RV.Lcl
theorem held_IntS {x : List Int} {k : Int}  (h0k : 0 ≤ k) (hbk : (mkL mkE_Int x k).2 ≤ 4611686018427387904): SCall Tryz.prog 19 [(false, [sl .v ((mkL mkE_Int x k).1.map cInt)]), (false, [val (vI k)])] (resRV [(false, [val (vI (mkL mkE_Int x k).2)])]) := by
 refine sF Tryz.func19 fun h0 w0 Fz0 => ?_
 refine sj 0 fun hl0 => ?_
 have hlm : (mkL mkE_Int x k).1.length = x.length := mkL_len _ _
 have hmono := mkL_take_le mkE_Int_le x
 have hmono0 := fun i => mkL_le mkE_Int_le (x.take i) k
 refine zej ?_
 refine sL [0] [] (fun i : Nat => i ≤ x.length) (fun i : Nat => [(1, RV.int (mkL mkE_Int (x.take i) k).2), (5, RV.int (i : Int))]) (fun i : Nat => []) (fun i : Nat => x.length - i) 0 (by omega) (by exact aI (by exact rfl) (aI (by exact rfl) (tI))) (by exact ⟨⟩) ?_
 rintro i hi
 refine zb2 ?_
 refine sc (fun hba => ?_) (fun hba => ?_)
 have hlt : i < x.length := by omega
 have hk0 := hmono0 i
 have hk1 := hmono (i + 1) k
 rw [mkL_succ hlt] at hk1
 dsimp only at hk1
 simp only [mkE_Int] at hk1
 refine zdx ?_
 refine zek ?_
 refine rA ?_ (x := loc_index (by decide) sl_25 (by exact ⟨⟩) (by exact rfl) (by exact mkL_getc hlt rfl) (by exact rfl))
 refine zel ?_
 refine sc (fun hbb => ?_) (fun hbb => ?_)
 exact zem
 exact zen
 exact zeo
theorem held_CondS {x : List Cond} {k : Int}  (h0k : 0 ≤ k) (hbk : (mkL mkE_Cond x k).2 ≤ 4611686018427387904): SCall Tryz.prog 136 [(false, [sl .v ((mkL mkE_Cond x k).1.map cCond)]), (false, [val (vI k)])] (resRV [(false, [val (vI (mkL mkE_Cond x k).2)])]) := by
 refine sF Tryz.func136 fun h0 w0 Fz0 => ?_
 refine sj 0 fun hl0 => ?_
 have hlm : (mkL mkE_Cond x k).1.length = x.length := mkL_len _ _
 have hmono := mkL_take_le mkE_Cond_le x
 have hmono0 := fun i => mkL_le mkE_Cond_le (x.take i) k
 refine zej ?_
 refine sL [0] [] (fun i : Nat => i ≤ x.length) (fun i : Nat => [(1, RV.int (mkL mkE_Cond (x.take i) k).2), (5, RV.int (i : Int))]) (fun i : Nat => []) (fun i : Nat => x.length - i) 0 (by omega) (by exact aI (by exact rfl) (aI (by exact rfl) (tI))) (by exact ⟨⟩) ?_
 rintro i hi
 refine zae ?_
 refine zcx ?_
 refine sc (fun hba => ?_) (fun hba => ?_)
 have hlt : i < x.length := by omega
 have hk0 := hmono0 i
 have hk1 := hmono (i + 1) k
 rw [mkL_succ hlt] at hk1
 dsimp only at hk1
 simp only [mkE_Cond] at hk1
 refine zdx ?_
 refine zep ?_
 refine rA ?_ (x := loc_efield (by decide) fd_193_0 (by exact nl rfl))
 refine zel ?_
 refine sc (fun hbb => ?_) (fun hbb => ?_)
 exact zem
 refine zeq ?_
 refine zep ?_
 refine rA ?_ (x := loc_efield (by decide) fd_193_1 (by exact nl rfl))
 refine zel ?_
 refine sc (fun hbc => ?_) (fun hbc => ?_)
 exact zer
 refine zeq ?_
 refine zep ?_
 refine rA ?_ (x := loc_efield (by decide) fd_193_2 (by exact nl rfl))
 refine zel ?_
 refine sc (fun hbd => ?_) (fun hbd => ?_)
 exact zes
 exact zen
 exact zeo
theorem held_ChargeS {p1 p2 p3 : Fl} {x : List Charge} {k : Int}  (h0k : 0 ≤ k) (hbk : (mkL mkE_Charge x k).2 ≤ 4611686018427387904): SCall Tryz.prog 68 [(false, [sl .v ((mkL mkE_Charge x k).1.map (cCharge p1 p2 p3))]), (false, [val (vI k)])] (resRV [(false, [val (vI (mkL mkE_Charge x k).2)])]) := by
 refine sF Tryz.func68 fun h0 w0 Fz0 => ?_
 refine sj 0 fun hl0 => ?_
 have hlm : (mkL mkE_Charge x k).1.length = x.length := mkL_len _ _
 have hmono := mkL_take_le mkE_Charge_le x
 have hmono0 := fun i => mkL_le mkE_Charge_le (x.take i) k
 refine zej ?_
 refine sL [0] [] (fun i : Nat => i ≤ x.length) (fun i : Nat => [(1, RV.int (mkL mkE_Charge (x.take i) k).2), (5, RV.int (i : Int))]) (fun i : Nat => []) (fun i : Nat => x.length - i) 0 (by omega) (by exact aI (by exact rfl) (aI (by exact rfl) (tI))) (by exact ⟨⟩) ?_
 rintro i hi
 refine zae ?_
 refine zd3 ?_
 refine sc (fun hba => ?_) (fun hba => ?_)
 have hlt : i < x.length := by omega
 have hk0 := hmono0 i
 have hk1 := hmono (i + 1) k
 rw [mkL_succ hlt] at hk1
 dsimp only at hk1
 have hm0 := mkL_le mkE_Int_le x[i].Ids (((mkL mkE_Charge (x.take i) k).2 + 1) + 1)
 have hm1 := mkL_le mkE_Int_le x[i].Tenants (mkL mkE_Int x[i].Ids (((mkL mkE_Charge (x.take i) k).2 + 1) + 1)).2
 have hm2 := mkL_le mkE_Int_le x[i].Rows (mkL mkE_Int x[i].Tenants (mkL mkE_Int x[i].Ids (((mkL mkE_Charge (x.take i) k).2 + 1) + 1)).2).2
 simp only [mkE_Charge] at hk1
 refine zdx ?_
 refine zet ?_
 refine rA ?_ (x := loc_efield (by decide) fd_148_0 (by exact nl rfl))
 refine zel ?_
 refine sc (fun hbb => ?_) (fun hbb => ?_)
 exact zem
 refine zeq ?_
 refine zet ?_
 refine rA ?_ (x := loc_efield (by decide) fd_148_1 (by exact nl rfl))
 refine zel ?_
 refine sc (fun hbc => ?_) (fun hbc => ?_)
 exact zer
 refine zeu ?_
 refine zet ?_
 refine rA ?_ (x := loc_efield (by decide) fd_148_2 (by exact nl rfl))
 refine zev ?_
 refine sc (fun hbd => ?_) (fun hbd => ?_)
 exact zes
 refine sw_skip ?_
 refine zet ?_
 refine rA ?_ (x := loc_efield (by decide) fd_148_3 (by exact nl rfl))
 refine zev ?_
 refine sc (fun hbe => ?_) (fun hbe => ?_)
 exact zew
 refine sw_skip ?_
 refine zet ?_
 refine rA ?_ (x := loc_efield (by decide) fd_148_4 (by exact nl rfl))
 refine zex ?_
 refine zah ?_
 refine sc (fun hbf => ?_) (fun hbf => ?_)
 exact zey
 exact zez
 exact zeo
theorem held_RowS {p1 : Fl} {x : List Row} {k : Int}  (h0k : 0 ≤ k) (hbk : (mkL mkE_Row x k).2 ≤ 4611686018427387904): SCall Tryz.prog 137 [(false, [sl .v ((mkL mkE_Row x k).1.map (cRow p1))]), (false, [val (vI k)])] (resRV [(false, [val (vI (mkL mkE_Row x k).2)])]) := by
 refine sF Tryz.func137 fun h0 w0 Fz0 => ?_
 refine sj 0 fun hl0 => ?_
 have hlm : (mkL mkE_Row x k).1.length = x.length := mkL_len _ _
 have hmono := mkL_take_le mkE_Row_le x
 have hmono0 := fun i => mkL_le mkE_Row_le (x.take i) k
 refine zej ?_
 refine sL [0] [] (fun i : Nat => i ≤ x.length) (fun i : Nat => [(1, RV.int (mkL mkE_Row (x.take i) k).2), (5, RV.int (i : Int))]) (fun i : Nat => []) (fun i : Nat => x.length - i) 0 (by omega) (by exact aI (by exact rfl) (aI (by exact rfl) (tI))) (by exact ⟨⟩) ?_
 rintro i hi
 refine zae ?_
 refine zd9 ?_
 refine sc (fun hba => ?_) (fun hba => ?_)
 have hlt : i < x.length := by omega
 have hk0 := hmono0 i
 have hk1 := hmono (i + 1) k
 rw [mkL_succ hlt] at hk1
 dsimp only at hk1
 have hm0 := mkL_le mkE_Int_le x[i].Values ((mkL mkE_Row (x.take i) k).2 + 1)
 simp only [mkE_Row] at hk1
 refine zdx ?_
 refine zf0 ?_
 refine rA ?_ (x := loc_efield (by decide) fd_66_0 (by exact nl rfl))
 refine zel ?_
 refine sc (fun hbb => ?_) (fun hbb => ?_)
 exact zem
 refine zeu ?_
 refine zf0 ?_
 refine rA ?_ (x := loc_efield (by decide) fd_66_1 (by exact nl rfl))
 refine zex ?_
 refine zah ?_
 refine sc (fun hbc => ?_) (fun hbc => ?_)
 exact zer
 exact zez
 exact zeo
theorem held_VersionS {p1 : Fl} {x : List Version} {k : Int}  (h0k : 0 ≤ k) (hbk : (mkL mkE_Version x k).2 ≤ 4611686018427387904): SCall Tryz.prog 204 [(false, [sl .v ((mkL mkE_Version x k).1.map (cVersion p1))]), (false, [val (vI k)])] (resRV [(false, [val (vI (mkL mkE_Version x k).2)])]) := by
 refine sF Tryz.func204 fun h0 w0 Fz0 => ?_
 refine sj 0 fun hl0 => ?_
 have hlm : (mkL mkE_Version x k).1.length = x.length := mkL_len _ _
 have hmono := mkL_take_le mkE_Version_le x
 have hmono0 := fun i => mkL_le mkE_Version_le (x.take i) k
 refine zej ?_
 refine sL [0] [] (fun i : Nat => i ≤ x.length) (fun i : Nat => [(1, RV.int (mkL mkE_Version (x.take i) k).2), (5, RV.int (i : Int))]) (fun i : Nat => []) (fun i : Nat => x.length - i) 0 (by omega) (by exact aI (by exact rfl) (aI (by exact rfl) (tI))) (by exact ⟨⟩) ?_
 rintro i hi
 refine zae ?_
 refine zd7 ?_
 refine sc (fun hba => ?_) (fun hba => ?_)
 have hlt : i < x.length := by omega
 have hk0 := hmono0 i
 have hk1 := hmono (i + 1) k
 rw [mkL_succ hlt] at hk1
 dsimp only at hk1
 have hm0 := mkL_le mkE_Int_le x[i].Values ((mkL mkE_Version (x.take i) k).2 + 1)
 simp only [mkE_Version] at hk1
 refine zdx ?_
 refine zf1 ?_
 refine rA ?_ (x := loc_efield (by decide) fd_151_0 (by exact nl rfl))
 refine zel ?_
 refine sc (fun hbb => ?_) (fun hbb => ?_)
 exact zem
 refine zeu ?_
 refine zf1 ?_
 refine rA ?_ (x := loc_efield (by decide) fd_151_1 (by exact nl rfl))
 refine zev ?_
 refine sc (fun hbc => ?_) (fun hbc => ?_)
 exact zer
 refine zf2 ?_
 refine zf1 ?_
 refine rA ?_ (x := loc_efield (by decide) fd_151_2 (by exact nl rfl))
 refine zel ?_
 refine sc (fun hbd => ?_) (fun hbd => ?_)
 exact zes
 refine zeq ?_
 refine zf1 ?_
 refine rA ?_ (x := loc_efield (by decide) fd_151_3 (by exact nl rfl))
 refine zel ?_
 refine sc (fun hbe => ?_) (fun hbe => ?_)
 exact zew
 exact zen
 exact zeo
theorem held_VersionSS {p1 p2 : Fl} {x : List (List Version)} {k : Int}  (h0k : 0 ≤ k) (hbk : (mkL mkE_VersionS x k).2 ≤ 4611686018427387904): SCall Tryz.prog 135 [(false, [sl .v ((mkL mkE_VersionS x k).1.map (cVersionS p1 p2))]), (false, [val (vI k)])] (resRV [(false, [val (vI (mkL mkE_VersionS x k).2)])]) := by
 refine sF Tryz.func135 fun h0 w0 Fz0 => ?_
 refine sj 0 fun hl0 => ?_
 have hlm : (mkL mkE_VersionS x k).1.length = x.length := mkL_len _ _
 have hmono := mkL_take_le mkE_VersionS_le x
 have hmono0 := fun i => mkL_le mkE_VersionS_le (x.take i) k
 refine zej ?_
 refine sL [0] [] (fun i : Nat => i ≤ x.length) (fun i : Nat => [(1, RV.int (mkL mkE_VersionS (x.take i) k).2), (5, RV.int (i : Int))]) (fun i : Nat => []) (fun i : Nat => x.length - i) 0 (by omega) (by exact aI (by exact rfl) (aI (by exact rfl) (tI))) (by exact ⟨⟩) ?_
 rintro i hi
 refine zae ?_
 refine zda ?_
 refine sc (fun hba => ?_) (fun hba => ?_)
 have hlt : i < x.length := by omega
 have hk0 := hmono0 i
 have hk1 := hmono (i + 1) k
 rw [mkL_succ hlt] at hk1
 dsimp only at hk1
 have hm0 := mkL_le mkE_Version_le x[i] (mkL mkE_VersionS (x.take i) k).2
 simp only [mkE_VersionS] at hk1
 refine zaf ?_
 refine rA ?_ (x := loc_index (by decide) sl_33 (by exact ⟨⟩) (by exact rfl) (by exact mkL_getc hlt rfl) (by exact rfl))
 refine rA ?_ (x := lE [sl .v _] ty_149)
 refine rM ?_
 refine rA ?_ (x := cL [(false, [sl _ _]), (false, [val _])] [(false, [sl .v _]), (false, [val _])] c_204 (hs := by exact held_VersionS (by omega) (by omega)))
 refine zah ?_
 refine sc (fun hbb => ?_) (fun hbb => ?_)
 exact zem
 exact zez
 exact zeo
theorem held_Store {p1 p2 : Fl} {x : Store} {k : Int}  (h0k : 0 ≤ k) (hbk : (mkV_Store x k).2 ≤ 4611686018427387904): SCall Tryz.prog 65 [(true, [sl .v ((mkV_Store x k).1.Segments.map (cVersionS p1 p2)), val (vI (mkV_Store x k).1.Now)]), (false, [val (vI k)])] (resRV [(false, [val (vI (mkV_Store x k).2)])]) := by
 refine sF Tryz.func65 fun h0 w0 Fz0 => ?_
 refine sn 0 0 fun hl0_0 => ?_
 simp only [mkV_Store] at hbk
 have hm0 := mkL_le mkE_VersionS_le x.Segments k
 refine zav ?_
 refine za5 ?_
 refine zdk ?_
 refine rM ?_
 refine rA ?_ (x := cL [(false, [sl _ _]), (false, [val _])] [(false, [sl .v _]), (false, [val _])] c_135 (hs := by exact held_VersionSS (by omega) (by omega)))
 refine zam ?_
 refine sc (fun hba => ?_) (fun hba => ?_)
 omega
 exact zf3
theorem held_ActiveS {p1 p2 p3 p4 p5 : Fl} {x : List Active} {k : Int}  (h0k : 0 ≤ k) (hbk : (mkL mkE_Active x k).2 ≤ 4611686018427387904): SCall Tryz.prog 66 [(false, [sl .v ((mkL mkE_Active x k).1.map (cActive p1 p2 p3 p4 p5))]), (false, [val (vI k)])] (resRV [(false, [val (vI (mkL mkE_Active x k).2)])]) := by
 refine sF Tryz.func66 fun h0 w0 Fz0 => ?_
 refine sj 0 fun hl0 => ?_
 have hlm : (mkL mkE_Active x k).1.length = x.length := mkL_len _ _
 have hmono := mkL_take_le mkE_Active_le x
 have hmono0 := fun i => mkL_le mkE_Active_le (x.take i) k
 refine zej ?_
 refine sL [0] [] (fun i : Nat => i ≤ x.length) (fun i : Nat => [(1, RV.int (mkL mkE_Active (x.take i) k).2), (5, RV.int (i : Int))]) (fun i : Nat => []) (fun i : Nat => x.length - i) 0 (by omega) (by exact aI (by exact rfl) (aI (by exact rfl) (tI))) (by exact ⟨⟩) ?_
 rintro i hi
 refine zae ?_
 refine rA ?_ (x := lN sl_36)
 refine rA ?_ (x := B_lss)
 refine sc (fun hba => ?_) (fun hba => ?_)
 have hlt : i < x.length := by omega
 have hk0 := hmono0 i
 have hk1 := hmono (i + 1) k
 rw [mkL_succ hlt] at hk1
 dsimp only at hk1
 have hm0 := mkL_le mkE_Cond_le x[i].Query.Conds (((mkL mkE_Active (x.take i) k).2 + 1) + 1)
 have hm1 := mkL_le mkE_Int_le x[i].Query.Out (mkL mkE_Cond x[i].Query.Conds (((mkL mkE_Active (x.take i) k).2 + 1) + 1)).2
 have hm2 := mkL_le mkE_Int_le x[i].Todo ((mkL mkE_Int x[i].Query.Out (mkL mkE_Cond x[i].Query.Conds (((mkL mkE_Active (x.take i) k).2 + 1) + 1)).2).2 + 1)
 have hm3 := mkL_le mkE_Row_le x[i].Rows ((((mkL mkE_Int x[i].Todo ((mkL mkE_Int x[i].Query.Out (mkL mkE_Cond x[i].Query.Conds (((mkL mkE_Active (x.take i) k).2 + 1) + 1)).2).2 + 1)).2 + 1) + 1) + 1)
 simp only [mkE_Active] at hk1
 refine zdx ?_
 refine zf4 ?_
 refine zf5 ?_
 refine zel ?_
 refine sc (fun hbb => ?_) (fun hbb => ?_)
 exact zem
 refine zeq ?_
 refine zf4 ?_
 refine rA ?_ (x := loc_efield (by decide) fd_142_0 (by exact nl rfl))
 refine rA ?_ (x := loc_efield (by decide) fd_65_1 (by exact nl rfl))
 refine zel ?_
 refine sc (fun hbc => ?_) (fun hbc => ?_)
 exact zer
 refine zeu ?_
 refine zf4 ?_
 refine rA ?_ (x := loc_efield (by decide) fd_142_0 (by exact nl rfl))
 refine zf6 ?_
 refine rM ?_
 refine zf7 ?_
 refine zf8 ?_
 refine sc (fun hbd => ?_) (fun hbd => ?_)
 exact zes
 refine sw_skip ?_
 refine sS [0, 1, 5] [] ?_
 refine zf9 ?_
 refine rA ?_ (x := loc_efield (by decide) fd_142_0 (by exact nl rfl))
 refine rA ?_ (x := loc_efield (by decide) fd_65_3 (by exact nl rfl))
 refine zev ?_
 refine sc (fun hbe => ?_) (fun hbe => ?_)
 exact zew
 refine zf2 ?_
 refine zf4 ?_
 refine rA ?_ (x := loc_efield (by decide) fd_142_1 (by exact nl rfl))
 refine zel ?_
 refine sc (fun hbf => ?_) (fun hbf => ?_)
 exact zey
 refine zeu ?_
 refine zf4 ?_
 refine rA ?_ (x := loc_efield (by decide) fd_142_2 (by exact nl rfl))
 refine zev ?_
 refine sc (fun hbg => ?_) (fun hbg => ?_)
 first | exact absurd rfl hbg | omega
 refine zf2 ?_
 refine zf4 ?_
 refine rA ?_ (x := loc_efield (by decide) fd_142_3 (by exact nl rfl))
 refine zel ?_
 refine sc (fun hbh => ?_) (fun hbh => ?_)
 first | exact absurd rfl hbh | omega
 refine zeq ?_
 refine zf4 ?_
 refine rA ?_ (x := loc_efield (by decide) fd_142_4 (by exact nl rfl))
 refine zel ?_
 refine sc (fun hbi => ?_) (fun hbi => ?_)
 first | exact absurd rfl hbi | omega
 refine zeq ?_
 refine zf4 ?_
 refine rA ?_ (x := loc_efield (by decide) fd_142_5 (by exact nl rfl))
 refine zel ?_
 refine sc (fun hbj => ?_) (fun hbj => ?_)
 first | exact absurd rfl hbj | omega
 refine zeu ?_
 refine zf4 ?_
 refine rA ?_ (x := loc_efield (by decide) fd_142_6 (by exact nl rfl))
 refine rA ?_ (x := lE [sl .v _] ty_93)
 refine zfa ?_
 refine zah ?_
 refine sc (fun hbk => ?_) (fun hbk => ?_)
 first | exact absurd rfl hbk | omega
 exact zez
 exact zeo
theorem held_FinishedS {p1 p2 p3 p4 : Fl} {x : List Finished} {k : Int}  (h0k : 0 ≤ k) (hbk : (mkL mkE_Finished x k).2 ≤ 4611686018427387904): SCall Tryz.prog 67 [(false, [sl .v ((mkL mkE_Finished x k).1.map (cFinished p1 p2 p3 p4))]), (false, [val (vI k)])] (resRV [(false, [val (vI (mkL mkE_Finished x k).2)])]) := by
 refine sF Tryz.func67 fun h0 w0 Fz0 => ?_
 refine sj 0 fun hl0 => ?_
 have hlm : (mkL mkE_Finished x k).1.length = x.length := mkL_len _ _
 have hmono := mkL_take_le mkE_Finished_le x
 have hmono0 := fun i => mkL_le mkE_Finished_le (x.take i) k
 refine zej ?_
 refine sL [0] [] (fun i : Nat => i ≤ x.length) (fun i : Nat => [(1, RV.int (mkL mkE_Finished (x.take i) k).2), (5, RV.int (i : Int))]) (fun i : Nat => []) (fun i : Nat => x.length - i) 0 (by omega) (by exact aI (by exact rfl) (aI (by exact rfl) (tI))) (by exact ⟨⟩) ?_
 rintro i hi
 refine zae ?_
 refine zdl ?_
 refine sc (fun hba => ?_) (fun hba => ?_)
 have hlt : i < x.length := by omega
 have hk0 := hmono0 i
 have hk1 := hmono (i + 1) k
 rw [mkL_succ hlt] at hk1
 dsimp only at hk1
 have hm0 := mkL_le mkE_Cond_le x[i].Query.Conds (((mkL mkE_Finished (x.take i) k).2 + 1) + 1)
 have hm1 := mkL_le mkE_Int_le x[i].Query.Out (mkL mkE_Cond x[i].Query.Conds (((mkL mkE_Finished (x.take i) k).2 + 1) + 1)).2
 have hm2 := mkL_le mkE_Row_le x[i].Rows (((mkL mkE_Int x[i].Query.Out (mkL mkE_Cond x[i].Query.Conds (((mkL mkE_Finished (x.take i) k).2 + 1) + 1)).2).2 + 1) + 1)
 simp only [mkE_Finished] at hk1
 refine zdx ?_
 refine zfb ?_
 refine rA ?_ (x := loc_efield (by decide) fd_65_0 (by exact nl rfl))
 refine zel ?_
 refine sc (fun hbb => ?_) (fun hbb => ?_)
 exact zem
 refine zeq ?_
 refine zfb ?_
 refine rA ?_ (x := loc_efield (by decide) fd_65_1 (by exact nl rfl))
 refine zel ?_
 refine sc (fun hbc => ?_) (fun hbc => ?_)
 exact zer
 refine zeu ?_
 refine zfb ?_
 refine zf6 ?_
 refine rM ?_
 refine zf7 ?_
 refine zf8 ?_
 refine sc (fun hbd => ?_) (fun hbd => ?_)
 exact zes
 refine sw_skip ?_
 refine zfb ?_
 refine rA ?_ (x := loc_efield (by decide) fd_65_3 (by exact nl rfl))
 refine zev ?_
 refine sc (fun hbe => ?_) (fun hbe => ?_)
 exact zew
 refine zf2 ?_
 refine zfc ?_
 refine rA ?_ (x := loc_efield (by decide) fd_144_1 (by exact nl rfl))
 refine zel ?_
 refine sc (fun hbf => ?_) (fun hbf => ?_)
 exact zey
 refine zeq ?_
 refine zfc ?_
 refine rA ?_ (x := loc_efield (by decide) fd_144_2 (by exact nl rfl))
 refine zel ?_
 refine sc (fun hbg => ?_) (fun hbg => ?_)
 first | exact absurd rfl hbg | omega
 refine zeu ?_
 refine zfc ?_
 refine rA ?_ (x := loc_efield (by decide) fd_144_3 (by exact nl rfl))
 refine rA ?_ (x := lE [sl .v _] ty_93)
 refine zfa ?_
 refine zah ?_
 refine sc (fun hbh => ?_) (fun hbh => ?_)
 first | exact absurd rfl hbh | omega
 exact zez
 exact zeo
theorem held_Engine {p1 p2 p5 p6 p7 p8 p9 p11 p12 p13 p14 p16 p17 p18 : Fl} {x : Engine} {k : Int}  (h0k : 0 ≤ k) (hbk : (mkV_Engine x k).2 ≤ 4611686018427387904): SCall Tryz.prog 22 [(true, [sl .v ((mkV_Engine x k).1.Store.Segments.map (cVersionS p1 p2)), val (vI (mkV_Engine x k).1.Store.Now), val (vI (mkV_Engine x k).1.Cursor), sl .v ((mkV_Engine x k).1.Order.map cInt), sl .v ((mkV_Engine x k).1.Active.map (cActive p5 p6 p7 p8 p9)), sl .v ((mkV_Engine x k).1.Done.map (cFinished p11 p12 p13 p14)), sl .v ((mkV_Engine x k).1.Ledger.map (cCharge p16 p17 p18)), val (vI (mkV_Engine x k).1.Steps)]), (false, [val (vI k)])] (resRV [(false, [val (vI (mkV_Engine x k).2)])]) := by
 refine sF Tryz.func22 fun h0 w0 Fz0 => ?_
 refine sn 0 0 fun hl0_0 => ?_
 refine sn 0 3 fun hl0_3 => ?_
 refine sn 0 4 fun hl0_4 => ?_
 refine sn 0 5 fun hl0_5 => ?_
 refine sn 0 6 fun hl0_6 => ?_
 simp only [mkV_Engine] at hbk
 have hm0 := mkL_le mkE_VersionS_le x.Store.Segments k
 have hm1 := mkL_le mkE_Int_le x.Order (mkL mkE_VersionS x.Store.Segments k).2
 have hm2 := mkL_le mkE_Active_le x.Active (mkL mkE_Int x.Order (mkL mkE_VersionS x.Store.Segments k).2).2
 have hm3 := mkL_le mkE_Finished_le x.Done (mkL mkE_Active x.Active (mkL mkE_Int x.Order (mkL mkE_VersionS x.Store.Segments k).2).2).2
 have hm4 := mkL_le mkE_Charge_le x.Ledger (mkL mkE_Finished x.Done (mkL mkE_Active x.Active (mkL mkE_Int x.Order (mkL mkE_VersionS x.Store.Segments k).2).2).2).2
 have hv0 : (mkV_Store x.Store k).2 = (mkL mkE_VersionS x.Store.Segments k).2 := rfl
 refine zay ?_
 refine za5 ?_
 refine zdm ?_
 refine rM ?_
 refine rA ?_ (x := cL [(true, [sl _ _, val _]), (false, [val _])] [(true, [sl .v _, val _]), (false, [val _])] c_65 (hs := by exact held_Store (by omega) (by first | omega | (simp only [mkV_Store]; omega))))
 refine zam ?_
 refine sc (fun hba => ?_) (fun hba => ?_)
 omega
 refine za8 ?_
 refine rA ?_ (x := lF fd_40_2)
 refine rA ?_ (x := lD [sl .v _] ty_25)
 refine zfd ?_
 refine zam ?_
 refine sc (fun hbb => ?_) (fun hbb => ?_)
 omega
 refine za8 ?_
 refine zdo ?_
 refine rM ?_
 refine rA ?_ (x := cL [(false, [sl _ _]), (false, [val _])] [(false, [sl .v _]), (false, [val _])] c_66 (hs := by exact held_ActiveS (by omega) (by omega)))
 refine zam ?_
 refine sc (fun hbc => ?_) (fun hbc => ?_)
 omega
 refine za8 ?_
 refine zdp ?_
 refine rM ?_
 refine rA ?_ (x := cL [(false, [sl _ _]), (false, [val _])] [(false, [sl .v _]), (false, [val _])] c_67 (hs := by exact held_FinishedS (by omega) (by omega)))
 refine zam ?_
 refine sc (fun hbd => ?_) (fun hbd => ?_)
 omega
 refine za8 ?_
 refine zdq ?_
 refine rM ?_
 refine rA ?_ (x := cL [(false, [sl _ _]), (false, [val _])] [(false, [sl .v _]), (false, [val _])] c_68 (hs := by exact held_ChargeS (by omega) (by omega)))
 refine zam ?_
 refine sc (fun hbe => ?_) (fun hbe => ?_)
 omega
 exact zf3
end Go.Proofs.YteflgldonmgejaaGreat
