/- What functions of the program compute. No condition. -/
import Derived.Test.YteflgldonmgejaaGreatCZMRunAdaptive
import Derived.Test.YteflgldonmgejaaGreatCFcRunAdaptive
import Derived.Test.YteflgldonmgejaaGreatCSzRunAdaptive
import Derived.KernelRfl
set_option linter.unusedVariables false
set_option linter.unusedSimpArgs false
namespace Go.Proofs.YteflgldonmgejaaGreat
open Go Go.RowKit M PV
set_option maxRecDepth 10000
attribute [local irreducible] PV.Lcl PV.LclR RV.Lcl
theorem to_IntS {x : List Int}  (hb : wtIntS x ≤ 1048576) : SCall Tryz.prog 46 [(false, [sl .v (x.map cInt)])] (resRV [(false, [sl (.own 3 1) (x.map cInt)])]) := by
 refine sF Tryz.func46 fun h0 w0 Fz0 => ?_
 refine sj 0 fun hl0 => ?_
 have hbu := hb
 simp only [wtIntS] at hbu
 refine zaz ?_
 refine sS [0, 2] [] ?_
 refine zb0 ?_
 refine rX ?_ (x := (loc_make (by decide) sl_25 z_3 rfl zo_3 (by exact ⟨⟩) (by exact ⟨⟩) (by exact rfl) (by exact rfl) (by omega) (by omega)))
 refine zb1 ?_
 refine sL [0, 2, 3] [] (fun k : Nat => k ≤ x.length) (fun k : Nat => [(4, RV.int (k : Int))]) (fun k : Nat => [(7, (3, (filled x cInt [val (.int .i64 0)] k).flatten))]) (fun k : Nat => x.length - k) 0 (by omega) (by exact aI (by exact rfl) (tI)) (by exact aI (by rw [filled_zero]; exact rfl) (tI)) ?_
 rintro k hk
 refine zb2 ?_
 refine sc (fun hba => ?_) (fun hba => ?_)
 have hlt : k < x.length := by omega
 have hwm := wt_mem (f := wtInt) hlt
 refine zb3 ?_
 refine zb4 ?_
 refine rA ?_ (x := loc_hindex (by decide) sl_25 (by exact ⟨⟩) (by exact rfl) (by omega))
 refine rA ?_ (x := loc_store (ag := false) (vs := [val _]) ty_3 (by exact ⟨⟩) (by exact rfl) (by exact fill_room (fun _ => rfl) rfl hlt))
 refine zb5 ?_
 refine nx (k + 1) (by omega) (f := (by exact aI (by exact congrArg (fun z => some (3, z)) (fill_next (e := 1) (fun _ => rfl) rfl hlt)) (tI)))
 have hlt : k = x.length := by omega
 refine zb6 ?_
 refine rA ?_ (x := loc_freeze (es := (x.map cInt)) (e := 1) (.inl rfl) (by decide) (by rw [hlt, filled_all]) (by exact List.length_map _) (by intro c hc; obtain ⟨y, _, rfl⟩ := List.mem_map.1 hc; rfl))
 exact zb7
theorem to_Cond {x : Cond}  (hb : wtCond x ≤ 1048576) : SCall Tryz.prog 215 [(true, [val (vI x.Field), val (vI x.Low), val (vI x.High)])] (resRV [(true, [val (vI x.Field), val (vI x.Low), val (vI x.High)])]) := by
 refine sF Tryz.func215 fun h0 w0 Fz0 => ?_
 have hbu := hb
 simp only [wtCond] at hbu
 refine zb8 ?_
 refine rX ?_ (x := (loc_alloc (by decide) z_193 zo_193))
 refine sT [1, 2] [1, 2] ?_
 refine rX ?_ (x := (loc_alloc (by decide) z_193 zo_193))
 refine sw_seq ?_
 refine zb9 ?_
 refine rA ?_ (x := lF fd_228_0)
 refine rA ?_ (x := lD [val _] ty_3)
 refine rA ?_ (x := lF fd_193_0)
 refine zba ?_
 refine zb9 ?_
 refine rA ?_ (x := lF fd_228_1)
 refine rA ?_ (x := lD [val _] ty_3)
 refine rA ?_ (x := lF fd_193_1)
 refine zba ?_
 refine zb9 ?_
 refine rA ?_ (x := lF fd_228_2)
 refine rA ?_ (x := lD [val _] ty_3)
 refine rA ?_ (x := lF fd_193_2)
 refine zba ?_
 refine zb9 ?_
 refine rA ?_ (x := lD [val _, val _, val _] ty_193)
 refine rA ?_ (x := loc_store (ag := true) (vs := [val _, val _, val _]) ty_193 (by exact ⟨⟩) (by exact rfl) (by exact nl rfl))
 refine sw_ret ?_
 exact (Exists.intro 2 (Exists.intro _ (aI (by exact rfl) (aI (by exact rfl) (aI ty_193 (aI (fun h => nomatch h) tI))))))
theorem to_Charge {x : Charge}  (hb : wtCharge x ≤ 1048576) : SCall Tryz.prog 112 [(true, [val (vI x.Segment), val (vI x.Base), sl .v (x.Ids.map cInt), sl .v (x.Tenants.map cInt), sl .v (x.Rows.map cInt)])] (resRV [(true, [val (vI x.Segment), val (vI x.Base), sl (.own 3 1) (x.Ids.map cInt), sl (.own 3 1) (x.Tenants.map cInt), sl (.own 3 1) (x.Rows.map cInt)])]) := by
 refine sF Tryz.func112 fun h0 w0 Fz0 => ?_
 refine sn 0 2 fun hl0_2 => ?_
 refine sn 0 3 fun hl0_3 => ?_
 refine sn 0 4 fun hl0_4 => ?_
 have hbu := hb
 simp only [wtCharge] at hbu
 refine zbb ?_
 refine sT [1, 2] [1, 2] ?_
 refine rX ?_ (x := (loc_alloc (by decide) z_148 zo_148))
 refine sw_seq ?_
 refine zbc ?_
 refine rA ?_ (x := lF fd_136_0)
 refine rA ?_ (x := lD [val _] ty_3)
 refine rA ?_ (x := lF fd_148_0)
 refine zba ?_
 refine zbc ?_
 refine rA ?_ (x := lF fd_136_1)
 refine rA ?_ (x := lD [val _] ty_3)
 refine rA ?_ (x := lF fd_148_1)
 refine zba ?_
 refine zbc ?_
 refine rA ?_ (x := lF fd_136_2)
 refine zbd ?_
 refine rA ?_ (x := lF fd_148_2)
 refine zbe ?_
 refine zbc ?_
 refine rA ?_ (x := lF fd_136_3)
 refine zbd ?_
 refine rA ?_ (x := lF fd_148_3)
 refine zbe ?_
 refine zbc ?_
 refine rA ?_ (x := lF fd_136_4)
 refine zbd ?_
 refine rA ?_ (x := lF fd_148_4)
 refine zbe ?_
 refine sO [(1, _), (2, _), (3, _)] [(1, _), (2, _), (3, (148, [val _, val _, sl _ _, sl _ _, sl _ _]))] ?_
 exact zbf
theorem to_CondS {x : List Cond}  (hb : wtCondS x ≤ 1048576) : SCall Tryz.prog 158 [(false, [sl .v (x.map cCond)])] (resRV [(false, [sl (.own 193 3) (x.map cCond)])]) := by
 refine sF Tryz.func158 fun h0 w0 Fz0 => ?_
 refine sj 0 fun hl0 => ?_
 have hbu := hb
 simp only [wtCondS] at hbu
 refine sR ?_
 refine rA ?_ (x := loc_const (.inr rfl) (by decide) (ok_nil (t := 193) (e := 3)))
 refine zbg ?_
 refine rA ?_ (x := lN sl_51)
 refine rX ?_ (x := (loc_make (by decide) sl_63 z_193 rfl zo_193 (by exact ⟨⟩) (by exact ⟨⟩) (by exact rfl) (by exact rfl) (by omega) (by omega)))
 refine zb1 ?_
 refine sL [0, 2, 3] [] (fun k : Nat => k ≤ x.length) (fun k : Nat => [(4, RV.int (k : Int))]) (fun k : Nat => [(7, (193, (filled x cCond [val (.int .i64 0), val (.int .i64 0), val (.int .i64 0)] k).flatten))]) (fun k : Nat => x.length - k) 0 (by omega) (by exact aI (by exact rfl) (tI)) (by exact aI (by rw [filled_zero]; exact rfl) (tI)) ?_
 rintro k hk
 refine zae ?_
 refine rA ?_ (x := lN sl_51)
 refine rA ?_ (x := B_lss)
 refine sc (fun hba => ?_) (fun hba => ?_)
 have hlt : k < x.length := by omega
 have hwm := wt_mem (f := wtCond) hlt
 refine zb3 ?_
 refine rA ?_ (x := loc_index (by decide) sl_51 (by exact ⟨⟩) (by exact rfl) (by exact getm2 (by omega) rfl) (by exact rfl))
 refine rA ?_ (x := lE [val _, val _, val _] ty_228)
 refine rA ?_ (x := cL [(true, [val _, val _, val _])] [(true, [val _, val _, val _])] c_215 (hs := by exact to_Cond (by omega)))
 refine rA ?_ (x := loc_hindex (by decide) sl_63 (by exact ⟨⟩) (by exact rfl) (by omega))
 refine rA ?_ (x := loc_store (ag := true) (vs := [val _, val _, val _]) ty_193 (by exact ⟨⟩) (by exact rfl) (by exact fill_room (fun _ => rfl) rfl hlt))
 refine zb5 ?_
 refine nx (k + 1) (by omega) (f := (by exact aI (by exact congrArg (fun z => some (193, z)) (fill_next (e := 3) (fun _ => rfl) rfl hlt)) (tI)))
 have hlt : k = x.length := by omega
 refine zb6 ?_
 refine rA ?_ (x := loc_freeze (es := (x.map cCond)) (e := 3) (.inl rfl) (by decide) (by rw [hlt, filled_all]) (by exact List.length_map _) (by intro c hc; obtain ⟨y, _, rfl⟩ := List.mem_map.1 hc; rfl))
 exact zb7
theorem to_Row {x : Row}  (hb : wtRow x ≤ 1048576) : SCall Tryz.prog 159 [(true, [val (vI x.Id), sl .v (x.Values.map cInt)])] (resRV [(true, [val (vI x.Id), sl (.own 3 1) (x.Values.map cInt)])]) := by
 refine sF Tryz.func159 fun h0 w0 Fz0 => ?_
 refine sn 0 1 fun hl0_1 => ?_
 have hbu := hb
 simp only [wtRow] at hbu
 refine zbh ?_
 refine sT [1, 2] [1, 2] ?_
 refine rX ?_ (x := (loc_alloc (by decide) z_66 zo_66))
 refine sw_seq ?_
 refine zbi ?_
 refine rA ?_ (x := lF fd_55_0)
 refine rA ?_ (x := lD [val _] ty_3)
 refine rA ?_ (x := lF fd_66_0)
 refine zba ?_
 refine zbi ?_
 refine rA ?_ (x := lF fd_55_1)
 refine zbd ?_
 refine rA ?_ (x := lF fd_66_1)
 refine zbe ?_
 refine zbi ?_
 refine rA ?_ (x := loc_ltake (ms := [val _, sl _ _]) (qs := [val _, sl .v _]) (by decide) ty_66 (fun h => nomatch h) (by exact nl rfl) (by exact rfl) (by exact (ToL.cons (PV.To.refl _) (ToL.cons PV.to_none ToL.nil))) (by exact (BorL.cons (bor_val _) (BorL.cons (bor_sl _) BorL.nil))))
 refine rA ?_ (x := loc_store (ag := true) (vs := [val _, sl _ _]) ty_66 (by exact ⟨⟩) (by exact rfl) (by exact nl rfl))
 exact zbj
theorem to_Version {x : Version}  (hb : wtVersion x ≤ 1048576) : SCall Tryz.prog 224 [(true, [val (vI x.Id), sl .v (x.Values.map cInt), val (vI x.Born), val (vI x.Died)])] (resRV [(true, [val (vI x.Id), sl (.own 3 1) (x.Values.map cInt), val (vI x.Born), val (vI x.Died)])]) := by
 refine sF Tryz.func224 fun h0 w0 Fz0 => ?_
 refine sn 0 1 fun hl0_1 => ?_
 have hbu := hb
 simp only [wtVersion] at hbu
 refine zac ?_
 refine rX ?_ (x := (loc_alloc (by decide) z_151 zo_151))
 refine sT [1, 2] [1, 2] ?_
 refine rX ?_ (x := (loc_alloc (by decide) z_151 zo_151))
 refine sw_seq ?_
 refine zbk ?_
 refine rA ?_ (x := lF fd_231_0)
 refine rA ?_ (x := lD [val _] ty_3)
 refine rA ?_ (x := lF fd_151_0)
 refine zba ?_
 refine zbk ?_
 refine rA ?_ (x := lF fd_231_1)
 refine zbd ?_
 refine rA ?_ (x := lF fd_151_1)
 refine zbe ?_
 refine zbk ?_
 refine rA ?_ (x := lF fd_231_2)
 refine rA ?_ (x := lD [val _] ty_3)
 refine rA ?_ (x := lF fd_151_2)
 refine zba ?_
 refine zbk ?_
 refine rA ?_ (x := lF fd_231_3)
 refine rA ?_ (x := lD [val _] ty_3)
 refine rA ?_ (x := lF fd_151_3)
 refine zba ?_
 refine zbk ?_
 refine rA ?_ (x := loc_ltake (ms := [val _, sl _ _, val _, val _]) (qs := [val _, sl .v _, val _, val _]) (by decide) ty_151 (fun h => nomatch h) (by exact nl rfl) (by exact rfl) (by exact (ToL.cons (PV.To.refl _) (ToL.cons PV.to_none (ToL.cons (PV.To.refl _) (ToL.cons (PV.To.refl _) ToL.nil))))) (by exact lq))
 refine zbl ?_
 exact (Exists.intro 2 (Exists.intro _ (aI (by exact rfl) (aI (by exact rfl) (aI ty_151 (aI (fun h => nomatch h) tI))))))
theorem to_ChargeS {p1 p2 p3 : Fl} {x : List Charge}  (hb : wtChargeS x ≤ 1048576) : SCall Tryz.prog 49 [(false, [sl .v (x.map (cCharge p1 p2 p3))])] (resRV [(false, [sl (.own 148 5) (x.map (cCharge (.own 3 1) (.own 3 1) (.own 3 1)))])]) := by
 refine sF Tryz.func49 fun h0 w0 Fz0 => ?_
 refine sj 0 fun hl0 => ?_
 have hbu := hb
 simp only [wtChargeS] at hbu
 refine sR ?_
 refine rA ?_ (x := loc_const (.inr rfl) (by decide) (ok_nil (t := 148) (e := 5)))
 refine zbg ?_
 refine rA ?_ (x := lN sl_28)
 refine rX ?_ (x := (loc_make (by decide) sl_38 z_148 rfl zo_148 (by exact ⟨⟩) (by exact ⟨⟩) (by exact rfl) (by exact rfl) (by omega) (by omega)))
 refine zb1 ?_
 refine sL [0, 2, 3] [] (fun k : Nat => k ≤ x.length) (fun k : Nat => [(4, RV.int (k : Int))]) (fun k : Nat => [(7, (148, (filled x (cCharge (.own 3 1) (.own 3 1) (.own 3 1)) [val (.int .i64 0), val (.int .i64 0), sl (.own 3 1) [], sl (.own 3 1) [], sl (.own 3 1) []] k).flatten))]) (fun k : Nat => x.length - k) 0 (by omega) (by exact aI (by exact rfl) (tI)) (by exact aI (by rw [filled_zero]; exact rfl) (tI)) ?_
 rintro k hk
 refine zae ?_
 refine rA ?_ (x := lN sl_28)
 refine rA ?_ (x := B_lss)
 refine sc (fun hba => ?_) (fun hba => ?_)
 have hlt : k < x.length := by omega
 have hwm := wt_mem (f := wtCharge) hlt
 refine zb3 ?_
 refine zag ?_
 refine rA ?_ (x := cL [(true, [val _, val _, sl _ _, sl _ _, sl _ _])] [(true, [val _, val _, sl .v _, sl .v _, sl .v _])] c_112 (hs := by exact to_Charge (by omega)))
 refine rA ?_ (x := loc_hindex (by decide) sl_38 (by exact ⟨⟩) (by exact rfl) (by omega))
 refine rA ?_ (x := loc_store (ag := true) (vs := [val _, val _, sl _ _, sl _ _, sl _ _]) ty_148 (by exact ⟨⟩) (by exact rfl) (by exact fill_room (fun _ => rfl) rfl hlt))
 refine zb5 ?_
 refine nx (k + 1) (by omega) (f := (by exact aI (by exact congrArg (fun z => some (148, z)) (fill_next (e := 5) (fun _ => rfl) rfl hlt)) (tI)))
 have hlt : k = x.length := by omega
 refine zb6 ?_
 refine rA ?_ (x := loc_freeze (es := (x.map (cCharge (.own 3 1) (.own 3 1) (.own 3 1)))) (e := 5) (.inl rfl) (by decide) (by rw [hlt, filled_all]) (by exact List.length_map _) (by intro c hc; obtain ⟨y, _, rfl⟩ := List.mem_map.1 hc; rfl))
 exact zb7
theorem to_Query {x : Query}  (hb : wtQuery x ≤ 1048576) : SCall Tryz.prog 80 [(true, [val (vI x.Id), val (vI x.Tenant), sl .v (x.Conds.map cCond), sl .v (x.Out.map cInt)])] (resRV [(true, [val (vI x.Id), val (vI x.Tenant), sl (.own 193 3) (x.Conds.map cCond), sl (.own 3 1) (x.Out.map cInt)])]) := by
 refine sF Tryz.func80 fun h0 w0 Fz0 => ?_
 refine sn 0 2 fun hl0_2 => ?_
 refine sn 0 3 fun hl0_3 => ?_
 have hbu := hb
 simp only [wtQuery] at hbu
 refine zbm ?_
 refine sT [1, 2] [1, 2] ?_
 refine rX ?_ (x := (loc_alloc (by decide) z_65 zo_65))
 refine sw_seq ?_
 refine zbn ?_
 refine rA ?_ (x := lF fd_53_0)
 refine rA ?_ (x := lD [val _] ty_3)
 refine rA ?_ (x := lF fd_65_0)
 refine zba ?_
 refine zbn ?_
 refine rA ?_ (x := lF fd_53_1)
 refine rA ?_ (x := lD [val _] ty_3)
 refine rA ?_ (x := lF fd_65_1)
 refine zba ?_
 refine zbn ?_
 refine rA ?_ (x := lF fd_53_2)
 refine rA ?_ (x := lD [sl .v _] ty_51)
 refine rA ?_ (x := cL [(false, [sl _ _])] [(false, [sl .v _])] c_158 (hs := by exact to_CondS (by omega)))
 refine zbo ?_
 refine sw_seq ?_
 refine zbn ?_
 refine rA ?_ (x := lF fd_53_3)
 refine zbd ?_
 refine rA ?_ (x := lF fd_65_3)
 refine zbe ?_
 refine sO [(1, _), (2, _), (3, _)] [(1, _), (2, _), (3, (65, [val _, val _, sl _ _, sl _ _]))] ?_
 exact zbp
theorem to_VersionS {p1 : Fl} {x : List Version}  (hb : wtVersionS x ≤ 1048576) : SCall Tryz.prog 186 [(false, [sl .v (x.map (cVersion p1))])] (resRV [(false, [sl (.own 151 4) (x.map (cVersion (.own 3 1)))])]) := by
 refine sF Tryz.func186 fun h0 w0 Fz0 => ?_
 refine sj 0 fun hl0 => ?_
 have hbu := hb
 simp only [wtVersionS] at hbu
 refine zbq ?_
 refine zbg ?_
 refine rA ?_ (x := lN sl_195)
 refine rX ?_ (x := (loc_make (by decide) sl_149 z_151 rfl zo_151 (by exact ⟨⟩) (by exact ⟨⟩) (by exact rfl) (by exact rfl) (by omega) (by omega)))
 refine zb1 ?_
 refine sL [0, 2, 3] [] (fun k : Nat => k ≤ x.length) (fun k : Nat => [(4, RV.int (k : Int))]) (fun k : Nat => [(7, (151, (filled x (cVersion (.own 3 1)) [val (.int .i64 0), sl (.own 3 1) [], val (.int .i64 0), val (.int .i64 0)] k).flatten))]) (fun k : Nat => x.length - k) 0 (by omega) (by exact aI (by exact rfl) (tI)) (by exact aI (by rw [filled_zero]; exact rfl) (tI)) ?_
 rintro k hk
 refine zae ?_
 refine rA ?_ (x := lN sl_195)
 refine rA ?_ (x := B_lss)
 refine sc (fun hba => ?_) (fun hba => ?_)
 have hlt : k < x.length := by omega
 have hwm := wt_mem (f := wtVersion) hlt
 refine zb3 ?_
 refine zan ?_
 refine rA ?_ (x := cL [(true, [val _, sl _ _, val _, val _])] [(true, [val _, sl .v _, val _, val _])] c_224 (hs := by exact to_Version (by omega)))
 refine rA ?_ (x := loc_hindex (by decide) sl_149 (by exact ⟨⟩) (by exact rfl) (by omega))
 refine rA ?_ (x := loc_store (ag := true) (vs := [val _, sl _ _, val _, val _]) ty_151 (by exact ⟨⟩) (by exact rfl) (by exact fill_room (fun _ => rfl) rfl hlt))
 refine zb5 ?_
 refine nx (k + 1) (by omega) (f := (by exact aI (by exact congrArg (fun z => some (151, z)) (fill_next (e := 4) (fun _ => rfl) rfl hlt)) (tI)))
 have hlt : k = x.length := by omega
 refine zb6 ?_
 refine rA ?_ (x := loc_freeze (es := (x.map (cVersion (.own 3 1)))) (e := 4) (.inl rfl) (by decide) (by rw [hlt, filled_all]) (by exact List.length_map _) (by intro c hc; obtain ⟨y, _, rfl⟩ := List.mem_map.1 hc; rfl))
 exact zb7
theorem to_RowS {p1 : Fl} {x : List Row}  (hb : wtRowS x ≤ 1048576) : SCall Tryz.prog 187 [(false, [sl .v (x.map (cRow p1))])] (resRV [(false, [sl (.own 66 2) (x.map (cRow (.own 3 1)))])]) := by
 refine sF Tryz.func187 fun h0 w0 Fz0 => ?_
 refine sj 0 fun hl0 => ?_
 have hbu := hb
 simp only [wtRowS] at hbu
 refine zbr ?_
 refine zbg ?_
 refine rA ?_ (x := lN sl_128)
 refine rX ?_ (x := (loc_make (by decide) sl_93 z_66 rfl zo_66 (by exact ⟨⟩) (by exact ⟨⟩) (by exact rfl) (by exact rfl) (by omega) (by omega)))
 refine zb1 ?_
 refine sL [0, 2, 3] [] (fun k : Nat => k ≤ x.length) (fun k : Nat => [(4, RV.int (k : Int))]) (fun k : Nat => [(7, (66, (filled x (cRow (.own 3 1)) [val (.int .i64 0), sl (.own 3 1) []] k).flatten))]) (fun k : Nat => x.length - k) 0 (by omega) (by exact aI (by exact rfl) (tI)) (by exact aI (by rw [filled_zero]; exact rfl) (tI)) ?_
 rintro k hk
 refine zae ?_
 refine rA ?_ (x := lN sl_128)
 refine rA ?_ (x := B_lss)
 refine sc (fun hba => ?_) (fun hba => ?_)
 have hlt : k < x.length := by omega
 have hwm := wt_mem (f := wtRow) hlt
 refine zb3 ?_
 refine zao ?_
 refine rA ?_ (x := cL [(true, [val _, sl _ _])] [(true, [val _, sl .v _])] c_159 (hs := by exact to_Row (by omega)))
 refine rA ?_ (x := loc_hindex (by decide) sl_93 (by exact ⟨⟩) (by exact rfl) (by omega))
 refine rA ?_ (x := loc_store (ag := true) (vs := [val _, sl _ _]) ty_66 (by exact ⟨⟩) (by exact rfl) (by exact fill_room (fun _ => rfl) rfl hlt))
 refine zb5 ?_
 refine nx (k + 1) (by omega) (f := (by exact aI (by exact congrArg (fun z => some (66, z)) (fill_next (e := 2) (fun _ => rfl) rfl hlt)) (tI)))
 have hlt : k = x.length := by omega
 refine zb6 ?_
 refine rA ?_ (x := loc_freeze (es := (x.map (cRow (.own 3 1)))) (e := 2) (.inl rfl) (by decide) (by rw [hlt, filled_all]) (by exact List.length_map _) (by intro c hc; obtain ⟨y, _, rfl⟩ := List.mem_map.1 hc; rfl))
 exact zb7
theorem to_VersionSS {p1 p2 : Fl} {x : List (List Version)}  (hb : wtVersionSS x ≤ 1048576) : SCall Tryz.prog 109 [(false, [sl .v (x.map (cVersionS p1 p2))])] (resRV [(false, [sl (.own 149 1) (x.map (cVersionS (.own 151 4) (.own 3 1)))])]) := by
 refine sF Tryz.func109 fun h0 w0 Fz0 => ?_
 refine sj 0 fun hl0 => ?_
 have hbu := hb
 simp only [wtVersionSS] at hbu
 refine sR ?_
 refine rA ?_ (x := loc_const (.inr rfl) (by decide) (ok_nil (t := 149) (e := 1)))
 refine zbg ?_
 refine rA ?_ (x := lN sl_22)
 refine rX ?_ (x := (loc_make (by decide) sl_33 z_149 rfl zo_149 (by exact ⟨⟩) (by exact ⟨⟩) (by exact rfl) (by exact rfl) (by omega) (by omega)))
 refine zb1 ?_
 refine sL [0, 2, 3] [] (fun k : Nat => k ≤ x.length) (fun k : Nat => [(4, RV.int (k : Int))]) (fun k : Nat => [(7, (149, (filled x (cVersionS (.own 151 4) (.own 3 1)) [sl (.own 151 4) []] k).flatten))]) (fun k : Nat => x.length - k) 0 (by omega) (by exact aI (by exact rfl) (tI)) (by exact aI (by rw [filled_zero]; exact rfl) (tI)) ?_
 rintro k hk
 refine zae ?_
 refine rA ?_ (x := lN sl_22)
 refine rA ?_ (x := B_lss)
 refine sc (fun hba => ?_) (fun hba => ?_)
 have hlt : k < x.length := by omega
 have hwm := wt_mem (f := wtVersionS) hlt
 refine zb3 ?_
 refine zap ?_
 refine rA ?_ (x := cL [(false, [sl _ _])] [(false, [sl .v _])] c_186 (hs := by exact to_VersionS (by omega)))
 refine rA ?_ (x := loc_hindex (by decide) sl_33 (by exact ⟨⟩) (by exact rfl) (by omega))
 refine rA ?_ (x := loc_store (ag := false) (vs := [sl _ _]) ty_149 (by exact ⟨⟩) (by exact rfl) (by exact fill_room (fun _ => rfl) rfl hlt))
 refine zb5 ?_
 refine nx (k + 1) (by omega) (f := (by exact aI (by exact congrArg (fun z => some (149, z)) (fill_next (e := 1) (fun _ => rfl) rfl hlt)) (tI)))
 have hlt : k = x.length := by omega
 refine zb6 ?_
 refine rA ?_ (x := loc_freeze (es := (x.map (cVersionS (.own 151 4) (.own 3 1)))) (e := 1) (.inl rfl) (by decide) (by rw [hlt, filled_all]) (by exact List.length_map _) (by intro c hc; obtain ⟨y, _, rfl⟩ := List.mem_map.1 hc; rfl))
 exact zb7
theorem to_Active {p4 : Fl} {x : Active}  (hb : wtActive x ≤ 1048576) : SCall Tryz.prog 110 [(true, [val (vI x.Query.Id), val (vI x.Query.Tenant), sl .v (x.Query.Conds.map cCond), sl .v (x.Query.Out.map cInt), val (vI x.Time), sl .v (x.Todo.map cInt), val (vI x.Age), val (vI x.Sent), val (vI x.Cap), sl .v (x.Rows.map (cRow p4))])] (resRV [(true, [val (vI x.Query.Id), val (vI x.Query.Tenant), sl (.own 193 3) (x.Query.Conds.map cCond), sl (.own 3 1) (x.Query.Out.map cInt), val (vI x.Time), sl (.own 3 1) (x.Todo.map cInt), val (vI x.Age), val (vI x.Sent), val (vI x.Cap), sl (.own 66 2) (x.Rows.map (cRow (.own 3 1)))])]) := by
 refine sF Tryz.func110 fun h0 w0 Fz0 => ?_
 refine sn 0 2 fun hl0_2 => ?_
 refine sn 0 3 fun hl0_3 => ?_
 refine sn 0 5 fun hl0_5 => ?_
 refine sn 0 9 fun hl0_9 => ?_
 have hbu := hb
 simp only [wtActive] at hbu
 refine zaq ?_
 refine rX ?_ (x := (loc_alloc (by decide) z_142 zo_142))
 refine sT [1, 2] [1, 2] ?_
 refine rX ?_ (x := (loc_alloc (by decide) z_142 zo_142))
 refine sw_seq ?_
 refine zbs ?_
 refine rA ?_ (x := lF fd_130_0)
 refine zbt ?_
 refine rA ?_ (x := lF fd_142_0)
 refine zbu ?_
 refine zbs ?_
 refine rA ?_ (x := lF fd_130_1)
 refine rA ?_ (x := lD [val _] ty_3)
 refine rA ?_ (x := lF fd_142_1)
 refine zba ?_
 refine zbs ?_
 refine rA ?_ (x := lF fd_130_2)
 refine zbd ?_
 refine rA ?_ (x := lF fd_142_2)
 refine zbe ?_
 refine zbs ?_
 refine rA ?_ (x := lF fd_130_3)
 refine rA ?_ (x := lD [val _] ty_3)
 refine zbv ?_
 refine zbs ?_
 refine rA ?_ (x := lF fd_130_4)
 refine rA ?_ (x := lD [val _] ty_3)
 refine rA ?_ (x := lF fd_142_4)
 refine zba ?_
 refine zbs ?_
 refine rA ?_ (x := lF fd_130_5)
 refine rA ?_ (x := lD [val _] ty_3)
 refine rA ?_ (x := lF fd_142_5)
 refine zba ?_
 refine zbs ?_
 refine rA ?_ (x := lF fd_130_6)
 refine zbw ?_
 refine zbx ?_
 refine sw_seq ?_
 refine sO [(1, _), (2, _), (3, _)] [(1, _), (2, _), (3, (142, [val _, val _, sl _ _, sl _ _, val _, sl _ _, val _, val _, val _, sl _ _]))] ?_
 exact zby
theorem to_Finished {p3 : Fl} {x : Finished}  (hb : wtFinished x ≤ 1048576) : SCall Tryz.prog 111 [(true, [val (vI x.Query.Id), val (vI x.Query.Tenant), sl .v (x.Query.Conds.map cCond), sl .v (x.Query.Out.map cInt), val (vI x.Time), val (vI x.Steps), sl .v (x.Rows.map (cRow p3))])] (resRV [(true, [val (vI x.Query.Id), val (vI x.Query.Tenant), sl (.own 193 3) (x.Query.Conds.map cCond), sl (.own 3 1) (x.Query.Out.map cInt), val (vI x.Time), val (vI x.Steps), sl (.own 66 2) (x.Rows.map (cRow (.own 3 1)))])]) := by
 refine sF Tryz.func111 fun h0 w0 Fz0 => ?_
 refine sn 0 2 fun hl0_2 => ?_
 refine sn 0 3 fun hl0_3 => ?_
 refine sn 0 6 fun hl0_6 => ?_
 have hbu := hb
 simp only [wtFinished] at hbu
 refine zau ?_
 refine rX ?_ (x := (loc_alloc (by decide) z_144 zo_144))
 refine sT [1, 2] [1, 2] ?_
 refine rX ?_ (x := (loc_alloc (by decide) z_144 zo_144))
 refine sw_seq ?_
 refine zbz ?_
 refine rA ?_ (x := lF fd_133_0)
 refine zbt ?_
 refine rA ?_ (x := lF fd_144_0)
 refine zbu ?_
 refine zbz ?_
 refine rA ?_ (x := lF fd_133_1)
 refine rA ?_ (x := lD [val _] ty_3)
 refine rA ?_ (x := lF fd_144_1)
 refine zba ?_
 refine zbz ?_
 refine rA ?_ (x := lF fd_133_2)
 refine rA ?_ (x := lD [val _] ty_3)
 refine rA ?_ (x := lF fd_144_2)
 refine zba ?_
 refine zbz ?_
 refine rA ?_ (x := lF fd_133_3)
 refine zbw ?_
 refine zc0 ?_
 refine sw_seq ?_
 refine sO [(1, _), (2, _), (3, _)] [(1, _), (2, _), (3, (144, [val _, val _, sl _ _, sl _ _, val _, val _, sl _ _]))] ?_
 exact zc1
theorem to_Store {p1 p2 : Fl} {x : Store}  (hb : wtStore x ≤ 1048576) : SCall Tryz.prog 45 [(true, [sl .v (x.Segments.map (cVersionS p1 p2)), val (vI x.Now)])] (resRV [(true, [sl (.own 149 1) (x.Segments.map (cVersionS (.own 151 4) (.own 3 1))), val (vI x.Now)])]) := by
 refine sF Tryz.func45 fun h0 w0 Fz0 => ?_
 refine sn 0 0 fun hl0_0 => ?_
 have hbu := hb
 simp only [wtStore] at hbu
 refine zav ?_
 refine zc2 ?_
 refine rX ?_ (x := (loc_alloc (by decide) z_35 zo_35))
 refine sw_seq ?_
 refine zc3 ?_
 refine rA ?_ (x := lF fd_24_0)
 refine rA ?_ (x := lD [sl .v _] ty_22)
 refine rA ?_ (x := cL [(false, [sl _ _])] [(false, [sl .v _])] c_109 (hs := by exact to_VersionSS (by omega)))
 refine zc4 ?_
 refine sw_seq ?_
 refine zc3 ?_
 refine rA ?_ (x := lF fd_24_1)
 refine rA ?_ (x := lD [val _] ty_3)
 refine rA ?_ (x := lF fd_35_1)
 refine zba ?_
 refine zc3 ?_
 refine zc5 ?_
 refine sw_ret ?_
 exact (Exists.intro 2 (Exists.intro _ (aI (by exact rfl) (aI (by exact rfl) (aI ty_35 (aI (fun h => nomatch h) tI))))))
theorem to_ActiveS {p1 p2 p3 p4 p5 : Fl} {x : List Active}  (hb : wtActiveS x ≤ 1048576) : SCall Tryz.prog 47 [(false, [sl .v (x.map (cActive p1 p2 p3 p4 p5))])] (resRV [(false, [sl (.own 142 10) (x.map (cActive (.own 193 3) (.own 3 1) (.own 3 1) (.own 66 2) (.own 3 1)))])]) := by
 refine sF Tryz.func47 fun h0 w0 Fz0 => ?_
 refine sj 0 fun hl0 => ?_
 have hbu := hb
 simp only [wtActiveS] at hbu
 refine sR ?_
 refine rA ?_ (x := loc_const (.inr rfl) (by decide) (ok_nil (t := 142) (e := 10)))
 refine zbg ?_
 refine rA ?_ (x := lN sl_26)
 refine rX ?_ (x := (loc_make (by decide) sl_36 z_142 rfl zo_142 (by exact ⟨⟩) (by exact ⟨⟩) (by exact rfl) (by exact rfl) (by omega) (by omega)))
 refine zb1 ?_
 refine sL [0, 2, 3] [] (fun k : Nat => k ≤ x.length) (fun k : Nat => [(4, RV.int (k : Int))]) (fun k : Nat => [(7, (142, (filled x (cActive (.own 193 3) (.own 3 1) (.own 3 1) (.own 66 2) (.own 3 1)) [val (.int .i64 0), val (.int .i64 0), sl (.own 193 3) [], sl (.own 3 1) [], val (.int .i64 0), sl (.own 3 1) [], val (.int .i64 0), val (.int .i64 0), val (.int .i64 0), sl (.own 66 2) []] k).flatten))]) (fun k : Nat => x.length - k) 0 (by omega) (by exact aI (by exact rfl) (tI)) (by exact aI (by rw [filled_zero]; exact rfl) (tI)) ?_
 rintro k hk
 refine zae ?_
 refine rA ?_ (x := lN sl_26)
 refine rA ?_ (x := B_lss)
 refine sc (fun hba => ?_) (fun hba => ?_)
 have hlt : k < x.length := by omega
 have hwm := wt_mem (f := wtActive) hlt
 refine zb3 ?_
 refine zaw ?_
 refine rA ?_ (x := cL [(true, [val _, val _, sl _ _, sl _ _, val _, sl _ _, val _, val _, val _, sl _ _])] [(true, [val _, val _, sl .v _, sl .v _, val _, sl .v _, val _, val _, val _, sl .v _])] c_110 (hs := by exact to_Active (by omega)))
 refine rA ?_ (x := loc_hindex (by decide) sl_36 (by exact ⟨⟩) (by exact rfl) (by omega))
 refine rA ?_ (x := loc_store (ag := true) (vs := [val _, val _, sl _ _, sl _ _, val _, sl _ _, val _, val _, val _, sl _ _]) ty_142 (by exact ⟨⟩) (by exact rfl) (by exact fill_room (fun _ => rfl) rfl hlt))
 refine zb5 ?_
 refine nx (k + 1) (by omega) (f := (by exact aI (by exact congrArg (fun z => some (142, z)) (fill_next (e := 10) (fun _ => rfl) rfl hlt)) (tI)))
 have hlt : k = x.length := by omega
 refine zb6 ?_
 refine rA ?_ (x := loc_freeze (es := (x.map (cActive (.own 193 3) (.own 3 1) (.own 3 1) (.own 66 2) (.own 3 1)))) (e := 10) (.inl rfl) (by decide) (by rw [hlt, filled_all]) (by exact List.length_map _) (by intro c hc; obtain ⟨y, _, rfl⟩ := List.mem_map.1 hc; rfl))
 exact zb7
theorem to_FinishedS {p1 p2 p3 p4 : Fl} {x : List Finished}  (hb : wtFinishedS x ≤ 1048576) : SCall Tryz.prog 48 [(false, [sl .v (x.map (cFinished p1 p2 p3 p4))])] (resRV [(false, [sl (.own 144 7) (x.map (cFinished (.own 193 3) (.own 3 1) (.own 66 2) (.own 3 1)))])]) := by
 refine sF Tryz.func48 fun h0 w0 Fz0 => ?_
 refine sj 0 fun hl0 => ?_
 have hbu := hb
 simp only [wtFinishedS] at hbu
 refine sR ?_
 refine rA ?_ (x := loc_const (.inr rfl) (by decide) (ok_nil (t := 144) (e := 7)))
 refine zbg ?_
 refine rA ?_ (x := lN sl_27)
 refine rX ?_ (x := (loc_make (by decide) sl_37 z_144 rfl zo_144 (by exact ⟨⟩) (by exact ⟨⟩) (by exact rfl) (by exact rfl) (by omega) (by omega)))
 refine zb1 ?_
 refine sL [0, 2, 3] [] (fun k : Nat => k ≤ x.length) (fun k : Nat => [(4, RV.int (k : Int))]) (fun k : Nat => [(7, (144, (filled x (cFinished (.own 193 3) (.own 3 1) (.own 66 2) (.own 3 1)) [val (.int .i64 0), val (.int .i64 0), sl (.own 193 3) [], sl (.own 3 1) [], val (.int .i64 0), val (.int .i64 0), sl (.own 66 2) []] k).flatten))]) (fun k : Nat => x.length - k) 0 (by omega) (by exact aI (by exact rfl) (tI)) (by exact aI (by rw [filled_zero]; exact rfl) (tI)) ?_
 rintro k hk
 refine zae ?_
 refine rA ?_ (x := lN sl_27)
 refine rA ?_ (x := B_lss)
 refine sc (fun hba => ?_) (fun hba => ?_)
 have hlt : k < x.length := by omega
 have hwm := wt_mem (f := wtFinished) hlt
 refine zb3 ?_
 refine zax ?_
 refine rA ?_ (x := cL [(true, [val _, val _, sl _ _, sl _ _, val _, val _, sl _ _])] [(true, [val _, val _, sl .v _, sl .v _, val _, val _, sl .v _])] c_111 (hs := by exact to_Finished (by omega)))
 refine rA ?_ (x := loc_hindex (by decide) sl_37 (by exact ⟨⟩) (by exact rfl) (by omega))
 refine rA ?_ (x := loc_store (ag := true) (vs := [val _, val _, sl _ _, sl _ _, val _, val _, sl _ _]) ty_144 (by exact ⟨⟩) (by exact rfl) (by exact fill_room (fun _ => rfl) rfl hlt))
 refine zb5 ?_
 refine nx (k + 1) (by omega) (f := (by exact aI (by exact congrArg (fun z => some (144, z)) (fill_next (e := 7) (fun _ => rfl) rfl hlt)) (tI)))
 have hlt : k = x.length := by omega
 refine zb6 ?_
 refine rA ?_ (x := loc_freeze (es := (x.map (cFinished (.own 193 3) (.own 3 1) (.own 66 2) (.own 3 1)))) (e := 7) (.inl rfl) (by decide) (by rw [hlt, filled_all]) (by exact List.length_map _) (by intro c hc; obtain ⟨y, _, rfl⟩ := List.mem_map.1 hc; rfl))
 exact zb7
theorem to_Engine {p1 p2 p5 p6 p7 p8 p9 p11 p12 p13 p14 p16 p17 p18 : Fl} {x : Engine}  (hb : wtEngine x ≤ 1048576) : SCall Tryz.prog 11 [(true, [sl .v (x.Store.Segments.map (cVersionS p1 p2)), val (vI x.Store.Now), val (vI x.Cursor), sl .v (x.Order.map cInt), sl .v (x.Active.map (cActive p5 p6 p7 p8 p9)), sl .v (x.Done.map (cFinished p11 p12 p13 p14)), sl .v (x.Ledger.map (cCharge p16 p17 p18)), val (vI x.Steps)])] (resRV [(true, [sl (.own 149 1) (x.Store.Segments.map (cVersionS (.own 151 4) (.own 3 1))), val (vI x.Store.Now), val (vI x.Cursor), sl (.own 3 1) (x.Order.map cInt), sl (.own 142 10) (x.Active.map (cActive (.own 193 3) (.own 3 1) (.own 3 1) (.own 66 2) (.own 3 1))), sl (.own 144 7) (x.Done.map (cFinished (.own 193 3) (.own 3 1) (.own 66 2) (.own 3 1))), sl (.own 148 5) (x.Ledger.map (cCharge (.own 3 1) (.own 3 1) (.own 3 1))), val (vI x.Steps)])]) := by
 refine sF Tryz.func11 fun h0 w0 Fz0 => ?_
 refine sn 0 0 fun hl0_0 => ?_
 refine sn 0 3 fun hl0_3 => ?_
 refine sn 0 4 fun hl0_4 => ?_
 refine sn 0 5 fun hl0_5 => ?_
 refine sn 0 6 fun hl0_6 => ?_
 have hbu := hb
 simp only [wtEngine] at hbu
 refine zc6 ?_
 refine sT [1, 2] [1, 2] ?_
 refine rX ?_ (x := (loc_alloc (by decide) z_40 zo_40))
 refine sw_seq ?_
 refine zc7 ?_
 refine rA ?_ (x := lF fd_30_0)
 refine rA ?_ (x := lD [sl .v _, val _] ty_24)
 refine rA ?_ (x := cL [(true, [sl _ _, val _])] [(true, [sl .v _, val _])] c_45 (hs := by exact to_Store (by omega)))
 refine zc8 ?_
 refine sw_seq ?_
 refine zc7 ?_
 refine rA ?_ (x := lF fd_30_1)
 refine rA ?_ (x := lD [val _] ty_3)
 refine rA ?_ (x := lF fd_40_1)
 refine zba ?_
 refine zc7 ?_
 refine rA ?_ (x := lF fd_30_2)
 refine zbd ?_
 refine rA ?_ (x := lF fd_40_2)
 refine zbe ?_
 refine zc7 ?_
 refine rA ?_ (x := lF fd_30_3)
 refine rA ?_ (x := lD [sl .v _] ty_26)
 refine rA ?_ (x := cL [(false, [sl _ _])] [(false, [sl .v _])] c_47 (hs := by exact to_ActiveS (by omega)))
 refine zc9 ?_
 refine sw_seq ?_
 refine zc7 ?_
 refine rA ?_ (x := lF fd_30_4)
 refine rA ?_ (x := lD [sl .v _] ty_27)
 refine rA ?_ (x := cL [(false, [sl _ _])] [(false, [sl .v _])] c_48 (hs := by exact to_FinishedS (by omega)))
 refine zca ?_
 refine sw_seq ?_
 refine zc7 ?_
 refine rA ?_ (x := lF fd_30_5)
 refine rA ?_ (x := lD [sl .v _] ty_28)
 refine rA ?_ (x := cL [(false, [sl _ _])] [(false, [sl .v _])] c_49 (hs := by exact to_ChargeS (by omega)))
 refine zcb ?_
 refine sw_seq ?_
 refine zc7 ?_
 refine rA ?_ (x := lF fd_30_6)
 refine rA ?_ (x := lD [val _] ty_3)
 refine rA ?_ (x := lF fd_40_6)
 refine zba ?_
 refine sO [(1, _), (2, _), (3, _)] [(1, _), (2, _), (3, (40, [sl _ _, val _, val _, sl _ _, sl _ _, sl _ _, sl _ _, val _]))] ?_
 exact zcc
end Go.Proofs.YteflgldonmgejaaGreat
