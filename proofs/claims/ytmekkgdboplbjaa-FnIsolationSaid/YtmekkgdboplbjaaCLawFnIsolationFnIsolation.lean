/- What functions of the program compute. No condition. -/
import Derived.Test.YtmekkgdboplbjaaCZMFnIsolation
import Derived.Test.YtmekkgdboplbjaaCFcFnIsolation
import Derived.Test.YtmekkgdboplbjaaCFinFnIsolation
import Derived.Test.YtmekkgdboplbjaaCDstFnIsolation
import Derived.Test.YtmekkgdboplbjaaCAtFnIsolation
import Derived.Test.YtmekkgdboplbjaaCBigFnIsolation
import Derived.Test.YtmekkgdboplbjaaCEqPFnIsolation
import Derived.Test.YtmekkgdboplbjaaCIdiFnIsolation
import Derived.Test.YtmekkgdboplbjaaCF2
import Derived.KernelRfl
set_option linter.unusedVariables false
set_option linter.unusedSimpArgs false
namespace Go.Proofs.Ytmekkgdboplbjaa
open Go Go.RowKit M PV
set_option maxRecDepth 10000
attribute [local irreducible] PV.Lcl PV.LclR RV.Lcl
set_option maxHeartbeats 8000000
attribute [local irreducible] belowC byteC
theorem FLawFnIsolation_pl_38 : placesI Try.prog 38 = some [(0, 1), (1, 1), (2, 1), (3, 1)] := by kernel_rfl
theorem FLawFnIsolation_pl_41 : placesI Try.prog 41 = some [(0, 1), (1, 1), (2, 1)] := by kernel_rfl
theorem law_FnIsolation {code : List Int}  (hcode : ∀ x ∈ code, 0 ≤ x ∧ x ≤ 255) : SCall Try.prog 3 [(false, [sl .v (code.map cU8)])] (resRV [(false, [val (.bool true)])]) := by
 refine sF Try.func3 fun h0 w0 Fz0 => ?_
 refine sj 0 fun hl0 => ?_
 refine zat ?_
 refine rA ?_ (x := vM false [sl .v _])
 refine rA ?_ (x := cL [(false, [sl _ _])] [(false, [sl .v _])] c_4 (hs := by exact laws_big))
 refine sc (fun hba => ?_) (fun hba => ?_)
 refine sS [0, 2] [] ?_
 refine rK ?_
 exact zad
 have hbig : code.length ≤ 1048576 := by have hh := hba; simp at hh; omega
 have hb : code.length ≤ 9223372036854775807 := by omega
 have hb2 : code.length ≤ 4611686018427387904 := by omega
 have hwe := hisE_wt (curNew code hb)
 have hwl := hisL_wt (curNew code hb)
 have hll := hisL_len (curNew code hb)
 have hlp := hisL_p (curNew code hb)
 have hat := fun i hi => (atB_ge hcode i hi).1
 obtain ⟨hqo, hqi⟩ := isoQ_ok code hat
 have hqw := okQuery_wt hqo
 obtain ⟨hadm, _⟩ := iso_new (c := (curNew code hb)) hqo
 have hone : (admitE (hisE (curNew code hb)) (isoQ code) 0).2 = true := by rw [admit_yes hadm]
 have haw := admit_wt (hisE (curNew code hb)) (isoQ code) 0
 have hwu := hwl
 simp only [wtEventS] at hwu
 refine sw_skip ?_
 refine sS [0, 2] [] ?_
 refine rA ?_ (x := vM false [sl .v _])
 refine rA ?_ (x := cL [(false, [sl _ _])] [(false, [sl .v _])] c_5 (hs := by exact (spec_DrawHistory (by omega) (by omega))))
 refine rA ?_ (x := tM)
 refine rA ?_ (x := loc_extract (cs := [sl _ _, val _, val _, sl _ _, sl _ _, sl _ _, sl _ _, val _]) (qs := [sl .v _, val _, val _, sl .v _, sl .v _, sl .v _, sl .v _, val _]) (by decide) (by exact rfl) (by exact (ToL.cons PV.to_none (ToL.cons (PV.To.refl _) (ToL.cons (PV.To.refl _) (ToL.cons PV.to_none (ToL.cons PV.to_none (ToL.cons PV.to_none (ToL.cons PV.to_none (ToL.cons (PV.To.refl _) ToL.nil))))))))) (by exact lq))
 refine rA ?_ (x := loc_extract (cs := [sl _ _]) (qs := [sl .v _]) (by decide) (by exact rfl) (by exact (ToL.cons PV.to_none ToL.nil)) (by exact (BorL.cons (bor_sl _) BorL.nil)))
 refine zgr ?_
 refine rA ?_ (x := tA)
 refine sT [0, 2, 3, 4] [3] ?_
 refine rA ?_ (x := loc_bslice (qs := [(false, [val _])]) (by decide) sl_27 z_3 (by decide) rfl rfl rfl rfl rfl (by exact nl rfl) (by exact (aI (ok_sc rfl) tI)) rfl)
 refine rA ?_ (x := loc_build (qs := [(false, [val _]), (false, [sl _ _])]) (cs := [val _, val _, sl _ _, sl _ _]) (by decide) z_38 zo_38 FLawFnIsolation_pl_38 (by exact rfl) (by exact (aI (ok_sc rfl) (aI (by exact ⟨⟩) tI))) rfl (by exact rfl))
 refine zkb ?_
 refine zdk ?_
 refine sO [(0, _), (2, _), (3, _), (4, _), (5, _)] [(3, _), (5, (38, [val _, val _, sl _ _, sl _ _]))] ?_
 refine sw_reg ?_
 refine zkw ?_
 refine rA ?_ (x := B_eql)
 refine sc (fun hbb => ?_) (fun hbb => ?_)
 have hq : isoQ code = ⟨23, 0, [⟨(atB code 1).tmod 3, 0, (atB code 2).tmod 6⟩], [0]⟩ := if_pos (by first | exact hbb | simpa using hbb)
 refine sG [0, 2, 3, 4, 5] [3, 5] ?_
 refine zkw ?_
 refine zkw ?_
 refine rA ?_ (x := loc_build (qs := [(false, [val _]), (false, [val _]), (false, [val _])]) (cs := [val _, val _, val _]) (by decide) z_41 zo_41 FLawFnIsolation_pl_41 (by exact rfl) (by exact (aI (by exact ⟨⟩) (aI (ok_sc rfl) (aI (by exact ⟨⟩) tI)))) rfl (by exact rfl))
 refine rA ?_ (x := loc_bslice (qs := [(true, [val _, val _, val _])]) (by decide) sl_36 z_41 (by decide) rfl rfl rfl rfl rfl (by exact nl rfl) (by exact (aI (by exact ⟨⟩) tI)) rfl)
 refine zf2 ?_
 refine sw_seq ?_
 refine sO [(0, _), (2, _), (3, _), (4, _), (5, _)] [(3, _), (5, (38, [val _, val _, sl _ _, sl _ _]))] ?_
 refine zkx ?_
 refine zky ?_
 refine rA ?_ (x := tM)
 refine zku ?_
 refine zgr ?_
 refine rS ?_
 refine zdk ?_
 refine zkz ?_
 refine rM ?_
 refine rA ?_ (x := nT)
 refine sc (fun hbc => ?_) (fun hbc => ?_)
 exact absurd hbc (by simp [hone])
 refine zbr ?_
 refine sP [0, 2, 3, 4, 5, 6, 7] [3, 5, 6] ?_
 refine zl0 ?_
 refine zl1 ?_
 refine zgc ?_
 refine zl2 ?_
 refine zao ?_
 refine zl3 ?_
 rintro m hm
 have hwa := isoTo_wt (f := isoA) (fun a x h => isoA_wt a h) (admitE (hisE (curNew code hb)) (isoQ code) 0).1 hlp hll m hm
 have hwb := isoTo_wt (f := isoB) (fun a x h => isoB_wt a h) (admitE (hisE (curNew code hb)) (isoQ code) 0).1 hlp hll m hm
 refine zl4 ?_
 refine rA ?_ (x := lN sl_33)
 refine rA ?_ (x := B_lss)
 refine sc (fun hbd => ?_) (fun hbd => ?_)
 have hlt : m < (hisL (curNew code hb)).length := by omega
 have hwm := wt_mem (f := wtEvent) hlt
 have hxp := hlp _ (List.getElem_mem hlt)
 have hxs := hxp.steps
 refine za6 ?_
 refine zl5 ?_
 refine zl6 ?_
 refine zl7 ?_
 refine sw_block ?_
 refine zl8 ?_
 refine sc (fun hbe => ?_) (fun hbe => ?_)
 exact zl9
 have hk4 : ¬ (hisL (curNew code hb))[m].Kind = 4 := by first | exact hbe | simpa using hbe
 refine zl8 ?_
 refine sc (fun hbf => ?_) (fun hbf => ?_)
 exact zla
 have hk3 : ¬ (hisL (curNew code hb))[m].Kind = 3 := by first | exact hbf | simpa using hbf
 have hxa : isoA (isoTo isoA (admitE (hisE (curNew code hb)) (isoQ code) 0).1 (hisL (curNew code hb)) m) (hisL (curNew code hb))[m] = (isoTo isoA (admitE (hisE (curNew code hb)) (isoQ code) 0).1 (hisL (curNew code hb)) m) := by unfold isoA; rw [if_neg hk4]
 have hxb : isoB (isoTo isoB (admitE (hisE (curNew code hb)) (isoQ code) 0).1 (hisL (curNew code hb)) m) (hisL (curNew code hb))[m] = (evE (isoTo isoB (admitE (hisE (curNew code hb)) (isoQ code) 0).1 (hisL (curNew code hb)) m) (hisL (curNew code hb))[m]).1 := by unfold isoB; rw [if_neg hk4, if_neg hk3]
 refine zlb ?_
 refine zlc ?_
 refine dX 0 ?_ (x := (loc_copy (.inl rfl) (by decide) (by exact Cp.sc)))
 refine zld ?_
 refine mid_call (G := 2000) (qs := [(true, [sl _ _, val _, val _, sl _ _, sl _ _, sl _ _, sl _ _, val _]), (true, [val _, val _, val _, sl _ _, sl _ _, val _, val _, val _, val _, sl _ _, val _, val _, val _])]) (as_ := [(true, [sl .v _, val _, val _, sl .v _, sl .v _, sl .v _, sl .v _, val _]), (true, [val _, val _, val _, sl .v _, sl .v _, val _, val _, val _, val _, sl .v _, val _, val _, val _])]) (by decide) c_9 (by exact ⟨rfl, rfl, ⟨⟩⟩) (by exact (aI (by exact ⟨⟩) (aI (by exact ⟨⟩) tI))) (by exact (aI (aI rfl (ToL.cons PV.to_none (ToL.cons (PV.To.refl _) (ToL.cons (PV.To.refl _) (ToL.cons PV.to_none (ToL.cons PV.to_none (ToL.cons PV.to_none (ToL.cons PV.to_none (ToL.cons (PV.To.refl _) ToL.nil))))))))) (aI (aI rfl (ToL.cons (PV.To.refl _) (ToL.cons (PV.To.refl _) (ToL.cons (PV.To.refl _) (ToL.cons PV.to_none (ToL.cons PV.to_none (ToL.cons (PV.To.refl _) (ToL.cons (PV.To.refl _) (ToL.cons (PV.To.refl _) (ToL.cons (PV.To.refl _) (ToL.cons PV.to_none (ToL.cons (PV.To.refl _) (ToL.cons (PV.To.refl _) (ToL.cons (PV.To.refl _) ToL.nil)))))))))))))) tI))) (by exact (impl_ApplyEvent (e := (isoTo isoB (admitE (hisE (curNew code hb)) (isoQ code) 0).1 (hisL (curNew code hb)) m)) (x := (hisL (curNew code hb))[m]) (by omega) (by omega))) (by kernel_rfl) (by kernel_rfl) fun uss hU0 => ?_
 obtain ⟨us0, r0, rfl, hl0, hR0, hU1⟩ := RelU.cons hU0
 obtain ⟨u8_0_0, u8_0_1, u8_0_2, u8_0_3, u8_0_4, u8_0_5, u8_0_6, u8_0_7, rfl⟩ := us_8 hl0
 obtain rfl := relval hR0 (j := 1) rfl rfl
 obtain rfl := relval hR0 (j := 2) rfl rfl
 obtain rfl := relval hR0 (j := 7) rfl rfl
 obtain ⟨us1, r1, rfl, hl1, hR1, hU2⟩ := RelU.cons hU1
 obtain ⟨u8_1_0, rfl⟩ := us_1 hl1
 exact zle
 exact zlf
 have hq : isoQ code = ⟨23, 0, [], [0]⟩ := if_neg (by first | exact hbb | simpa using hbb)
 refine zbr ?_
 refine sP [0, 2, 3, 4, 5] [3, 5] ?_
 refine zkx ?_
 refine zky ?_
 refine rA ?_ (x := tM)
 refine zku ?_
 refine zgr ?_
 refine rS ?_
 refine zdk ?_
 refine zkz ?_
 refine rM ?_
 refine rA ?_ (x := nT)
 refine sc (fun hbc => ?_) (fun hbc => ?_)
 exact absurd hbc (by simp [hone])
 refine zbr ?_
 refine sP [0, 2, 3, 4, 5, 6, 7] [3, 5, 6] ?_
 refine zl0 ?_
 refine zl1 ?_
 refine zgc ?_
 refine zl2 ?_
 refine zao ?_
 refine zl3 ?_
 rintro m hm
 have hwa := isoTo_wt (f := isoA) (fun a x h => isoA_wt a h) (admitE (hisE (curNew code hb)) (isoQ code) 0).1 hlp hll m hm
 have hwb := isoTo_wt (f := isoB) (fun a x h => isoB_wt a h) (admitE (hisE (curNew code hb)) (isoQ code) 0).1 hlp hll m hm
 refine zl4 ?_
 refine rA ?_ (x := lN sl_33)
 refine rA ?_ (x := B_lss)
 refine sc (fun hbd => ?_) (fun hbd => ?_)
 have hlt : m < (hisL (curNew code hb)).length := by omega
 have hwm := wt_mem (f := wtEvent) hlt
 have hxp := hlp _ (List.getElem_mem hlt)
 have hxs := hxp.steps
 refine za6 ?_
 refine zl5 ?_
 refine zl6 ?_
 refine zl7 ?_
 refine sw_block ?_
 refine zl8 ?_
 refine sc (fun hbe => ?_) (fun hbe => ?_)
 exact zl9
 have hk4 : ¬ (hisL (curNew code hb))[m].Kind = 4 := by first | exact hbe | simpa using hbe
 refine zl8 ?_
 refine sc (fun hbf => ?_) (fun hbf => ?_)
 exact zla
 have hk3 : ¬ (hisL (curNew code hb))[m].Kind = 3 := by first | exact hbf | simpa using hbf
 have hxa : isoA (isoTo isoA (admitE (hisE (curNew code hb)) (isoQ code) 0).1 (hisL (curNew code hb)) m) (hisL (curNew code hb))[m] = (isoTo isoA (admitE (hisE (curNew code hb)) (isoQ code) 0).1 (hisL (curNew code hb)) m) := by unfold isoA; rw [if_neg hk4]
 have hxb : isoB (isoTo isoB (admitE (hisE (curNew code hb)) (isoQ code) 0).1 (hisL (curNew code hb)) m) (hisL (curNew code hb))[m] = (evE (isoTo isoB (admitE (hisE (curNew code hb)) (isoQ code) 0).1 (hisL (curNew code hb)) m) (hisL (curNew code hb))[m]).1 := by unfold isoB; rw [if_neg hk4, if_neg hk3]
 refine zlb ?_
 refine zlc ?_
 refine dX 0 ?_ (x := (loc_copy (.inl rfl) (by decide) (by exact Cp.sc)))
 refine zld ?_
 refine mid_call (G := 2000) (qs := [(true, [sl _ _, val _, val _, sl _ _, sl _ _, sl _ _, sl _ _, val _]), (true, [val _, val _, val _, sl _ _, sl _ _, val _, val _, val _, val _, sl _ _, val _, val _, val _])]) (as_ := [(true, [sl .v _, val _, val _, sl .v _, sl .v _, sl .v _, sl .v _, val _]), (true, [val _, val _, val _, sl .v _, sl .v _, val _, val _, val _, val _, sl .v _, val _, val _, val _])]) (by decide) c_9 (by exact ⟨rfl, rfl, ⟨⟩⟩) (by exact (aI (by exact ⟨⟩) (aI (by exact ⟨⟩) tI))) (by exact (aI (aI rfl (ToL.cons PV.to_none (ToL.cons (PV.To.refl _) (ToL.cons (PV.To.refl _) (ToL.cons PV.to_none (ToL.cons PV.to_none (ToL.cons PV.to_none (ToL.cons PV.to_none (ToL.cons (PV.To.refl _) ToL.nil))))))))) (aI (aI rfl (ToL.cons (PV.To.refl _) (ToL.cons (PV.To.refl _) (ToL.cons (PV.To.refl _) (ToL.cons PV.to_none (ToL.cons PV.to_none (ToL.cons (PV.To.refl _) (ToL.cons (PV.To.refl _) (ToL.cons (PV.To.refl _) (ToL.cons (PV.To.refl _) (ToL.cons PV.to_none (ToL.cons (PV.To.refl _) (ToL.cons (PV.To.refl _) (ToL.cons (PV.To.refl _) ToL.nil)))))))))))))) tI))) (by exact (impl_ApplyEvent (e := (isoTo isoB (admitE (hisE (curNew code hb)) (isoQ code) 0).1 (hisL (curNew code hb)) m)) (x := (hisL (curNew code hb))[m]) (by omega) (by omega))) (by kernel_rfl) (by kernel_rfl) fun uss hU0 => ?_
 obtain ⟨us0, r0, rfl, hl0, hR0, hU1⟩ := RelU.cons hU0
 obtain ⟨u17_0_0, u17_0_1, u17_0_2, u17_0_3, u17_0_4, u17_0_5, u17_0_6, u17_0_7, rfl⟩ := us_8 hl0
 obtain rfl := relval hR0 (j := 1) rfl rfl
 obtain rfl := relval hR0 (j := 2) rfl rfl
 obtain rfl := relval hR0 (j := 7) rfl rfl
 obtain ⟨us1, r1, rfl, hl1, hR1, hU2⟩ := RelU.cons hU1
 obtain ⟨u17_1_0, rfl⟩ := us_1 hl1
 exact zle
 exact zlf
end Go.Proofs.Ytmekkgdboplbjaa
