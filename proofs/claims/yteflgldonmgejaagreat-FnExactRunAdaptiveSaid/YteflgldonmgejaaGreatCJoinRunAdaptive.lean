/- What functions of the program compute. No condition. -/
import Derived.Test.YteflgldonmgejaaGreatCZMRunAdaptive
import Derived.Test.YteflgldonmgejaaGreatCFcRunAdaptive
import Derived.Test.YteflgldonmgejaaGreatCSetRunAdaptive
import Derived.KernelRfl
set_option linter.unusedVariables false
set_option linter.unusedSimpArgs false
namespace Go.Proofs.YteflgldonmgejaaGreat
open Go Go.RowKit M PV
set_option maxRecDepth 10000
attribute [local irreducible] PV.Lcl PV.LclR RV.Lcl
theorem impl_pick {q : Int → Bool}  : SCall Tryz.prog 226 [(false, [PV.clo Tryz.prog asI (rsB q)])] (resRV [(false, [sl (.own 3 1) ((pickL q 24).map cInt)])]) := by
 refine scall_of (rs := [(false, [sl (.own 3 1) ((pickL q 24).map cInt)])]) Tryz.func226 rfl (nl rfl) (borA_cons (BorL.cons (bor_clo _ _) BorL.nil) borA_nil) ?_
 intro h0 w0 Fz0
 refine zaz ?_
 refine sS [0, 2] [] ?_
 refine zj4 ?_
 refine sS [0, 2, 3] [] ?_
 refine zgs ?_
 refine sL [0, 2] [] (fun k : Nat => k ≤ 24) (fun k : Nat => [(3, RV.slc (.own 3 1) ((pickL q k).map cInt)), (4, RV.int (k : Int))]) (fun k : Nat => []) (fun k : Nat => 24 - k) 0 (by omega) (by exact aI (by exact rfl) (aI (by exact rfl) (tI))) (by exact ⟨⟩) ?_
 rintro k hk
 refine zj5 ?_
 refine zi8 ?_
 refine sc (fun hba => ?_) (fun hba => ?_)
 have hlt : k < 24 := by omega
 have hpl := pickL_len q k
 refine zed ?_
 refine sS [0, 2, 3, 4] [] ?_
 refine rA ?_ (x := loc_copy (r' := RV.sv false [PV.clo _ _ _]) (.inl rfl) (by decide) (by exact Cp.sv (ToL.cons (PV.To.refl _) ToL.nil) (BorL.cons (bor_clo _ _) BorL.nil)))
 refine rM ?_
 refine rA ?_ (x := loc_callp (k : Int) (qs := [(false, [val _])]) (r := RV.sv false [val _]) (by decide) (by exact (aI (by exact ⟨⟩) tI)) (by exact (aI (aI rfl (ToL.cons (PV.To.refl _) ToL.nil)) tI)) (by exact rfl))
 refine sc (fun hbb => ?_) (fun hbb => ?_)
 have hc := hbb
 refine sG [0, 2, 3, 4] [] ?_
 refine rA ?_ (x := tM)
 refine rM ?_
 refine zj6 ?_
 exact zj7
 have hc := hbb
 refine sw_skip ?_
 exact zj7
 have hend : k = 24 := by omega
 refine sw_exit ?_
 refine sS [0, 2, 3, 4] [] ?_
 refine zhz ?_
 exact (aI (by refine slc_eq ?_; rw [hend]) tI)
theorem impl_MeetSets_1 {a b : List Int} {x : Int}  : SCall Tryz.prog 227 [(false, [val (vI x)]), (false, [PV.ep [sl .v (a.map cInt)]]), (false, [PV.ep [sl .v (b.map cInt)]])] (resRV [(false, [val (.bool (hasI a x && hasI b x))])]) := by
 refine scall_of (rs := [(false, [val (.bool (hasI a x && hasI b x))])]) Tryz.func227 rfl (nl rfl) (borA_cons (BorL.cons (bor_val _) BorL.nil) (borA_cons (BorL.cons (bor_ep _) BorL.nil) (borA_cons (BorL.cons (bor_ep _) BorL.nil) borA_nil))) ?_
 intro h0 w0 Fz0
 refine sR ?_
 refine rK ?_
 refine sS [0, 1, 2, 4] [] ?_
 refine rA ?_ (x := loc_epload (qs := [sl .v _]) (by decide) ty_25 (fun _ => rfl) (by exact nl rfl) (by exact (ToL.cons PV.to_none ToL.nil)) (by exact (BorL.cons (bor_sl _) BorL.nil)))
 refine rM ?_
 refine rA ?_ (x := cL [(false, [sl _ _]), (false, [val _])] [(false, [sl .v _]), (false, [val _])] c_228 (hs := by exact impl_HasMember))
 refine rM ?_
 refine cx 8 (fun ga sga => ?_) (fun ga sga => ?_)
 refine rB ga ?_ (x := loc_epload (qs := [sl .v _]) (by decide) ty_25 (fun _ => rfl) (by exact nl rfl) (by exact (ToL.cons PV.to_none ToL.nil)) (by exact (BorL.cons (bor_sl _) BorL.nil)))
 refine rB ga ?_ (x := sM)
 refine rB ga ?_ (x := cL [(false, [sl _ _]), (false, [val _])] [(false, [sl .v _]), (false, [val _])] c_228 (hs := by exact impl_HasMember))
 refine rA ?_ (x := pkT ga)
 refine zgj ?_
 exact rb (by simp [*])
 refine zfz ?_
 refine zgj ?_
 exact rb (by simp [*])
theorem impl_MeetSets {a : List Int} {b : List Int}  : SCall Tryz.prog 200 [(false, [sl .v (a.map cInt)]), (false, [sl .v (b.map cInt)])] (resRV [(false, [sl (.own 3 1) ((MeetSetsF a b).map cInt)])]) := by
 refine sF Tryz.func200 fun h0 w0 Fz0 => ?_
 refine sj 0 fun hl0 => ?_
 refine sj 1 fun hl1 => ?_
 refine sR ?_
 refine rX ?_ (x := (loc_box (ag := false) (cs := [sl _ _]) (by decide) (by exact ⟨⟩)))
 refine rX ?_ (x := (loc_box (ag := false) (cs := [sl _ _]) (by decide) (by exact ⟨⟩)))
 refine zj8 ?_
 refine sT [2, 3, 4] [2, 3] ?_
 refine zj9 ?_
 refine zha ?_
 refine cx 8 (fun ga sga => ?_) (fun ga sga => ?_)
 refine zja ?_
 exact zjb
 refine rB ga ?_ (x := lD [sl .v _] ty_25)
 refine rB ga ?_ (x := cL [(false, [sl _ _])] [(false, [sl .v _])] c_193 (hs := by exact impl_IsSet))
 refine zi1 ?_
 refine sc (fun hba => ?_) (fun hba => ?_)
 exact zjb
 refine zf2 ?_
 refine sP [2, 3, 4] [2, 3] ?_
 refine sw_frzB (s := 2) (b := 2) (by exact rfl) (by exact rfl) ?_
 refine sP [2, 3, 4] [3] ?_
 refine sw_frzB (s := 3) (b := 3) (by exact rfl) (by exact rfl) ?_
 refine sG [2, 3, 4] [] ?_
 refine rA ?_ (x := loc_mkfn (asf := asI) (rf := (rsB (fun x : Int => hasI a x && hasI b x))) (qs := [(false, [PV.ep [sl _ _]]), (false, [PV.ep [sl _ _]])]) (caps := [(false, [PV.ep [sl _ _]]), (false, [PV.ep [sl _ _]])]) (by decide) c_227 (by exact (aI (by exact ⟨⟩) (aI (by exact ⟨⟩) tI))) (by exact (aI (aI rfl (ToL.cons (PV.To.refl _) ToL.nil)) (aI (aI rfl (ToL.cons (PV.To.refl _) ToL.nil)) tI))) (fun x => by exact impl_MeetSets_1))
 refine rA ?_ (x := cL [(false, [PV.clo _ _ _])] [(false, [PV.clo _ _ _])] c_226 (hs := by exact impl_pick))
 refine rA ?_ (x := tA)
 exact zjc
theorem spec_MeetSets {a : List Int} {b : List Int}  : SCall Tryz.prog 185 [(false, [sl .v (a.map cInt)]), (false, [sl .v (b.map cInt)])] (resRV [(false, [sl (.own 3 1) ((MeetSetsF a b).map cInt)])]) := by
 refine sF Tryz.func185 fun h0 w0 Fz0 => ?_
 refine sj 0 fun hl0 => ?_
 refine sj 1 fun hl1 => ?_
 refine zaz ?_
 refine sS [0, 1, 4] [] ?_
 refine zj4 ?_
 refine zjd ?_
 refine sP [0, 1, 4, 5, 6] [] ?_
 refine sL [0, 1, 4] [] (fun k : Nat => k ≤ a.length ∧ (0 < k → (okSet a && okSet b) = true)) (fun k : Nat => [(5, RV.slc (.own 3 1) (((a.take k).filter (fun x => hasI b x)).map cInt)), (6, RV.int (k : Int))]) (fun k : Nat => []) (fun k : Nat => a.length - k) 0 (by exact ⟨by omega, fun h => absurd h (Nat.lt_irrefl 0)⟩) (by exact aI (by first | exact rfl | simp) (aI (by exact rfl) (tI))) (by exact ⟨⟩) ?_
 rintro k ⟨hk, ha⟩
 refine zb2 ?_
 refine rM ?_
 refine cx 12 (fun ga sga => ?_) (fun ga sga => ?_)
 refine rB ga ?_ (x := vM false [sl .v _])
 refine rB ga ?_ (x := cL [(false, [sl _ _])] [(false, [sl .v _])] c_177 (hs := by exact spec_IsSet))
 refine zgy ?_
 refine cx 16 (fun gb sgb => ?_) (fun gb sgb => ?_)
 refine rB gb ?_ (x := vM false [sl .v _])
 refine rB gb ?_ (x := cL [(false, [sl _ _])] [(false, [sl .v _])] c_177 (hs := by exact spec_IsSet))
 refine rA ?_ (x := pkT gb)
 refine sc (fun hba => ?_) (fun hba => ?_)
 have hlt : k < a.length := by simp at *; omega
 have hok2 : (okSet a && okSet b) = true := by simp_all
 have h24 := okSet_len ((Bool.and_eq_true_iff).1 hok2).1
 have hln : ((a.take k).filter (fun x => hasI b x)).length ≤ k := Nat.le_trans (List.length_filter_le _ _) (by rw [List.length_take]; omega)
 refine zje ?_
 refine rA ?_ (x := vM false [sl .v _])
 refine zgf ?_
 refine zb4 ?_
 refine rA ?_ (x := cL [(false, [sl _ _]), (false, [val _])] [(false, [sl .v _]), (false, [val _])] c_173 (hs := by exact spec_HasMember))
 refine sc (fun hbb => ?_) (fun hbb => ?_)
 have hc := hbb
 refine sG [0, 1, 4, 5, 6] [] ?_
 refine zgt ?_
 refine zb4 ?_
 refine zj6 ?_
 exact zjf
 have hc := hbb
 refine sw_skip ?_
 exact zjf
 exact zjg
 refine zh3 ?_
 refine scF ?_
 exact zjg
 refine zh4 ?_
 refine RunS.cases (s := 16) rfl (fun g6 => nomatch g6) (fun g6 => ?_)
 refine zf g6 ?_
 refine rA ?_ (x := pkF g6)
 refine scF ?_
 exact zjg
end Go.Proofs.YteflgldonmgejaaGreat
