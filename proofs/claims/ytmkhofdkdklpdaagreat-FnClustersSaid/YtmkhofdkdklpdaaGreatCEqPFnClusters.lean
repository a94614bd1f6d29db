/- What functions of the program compute. No condition. -/
import Derived.Test.YtmkhofdkdklpdaaGreatCZMFnClusters
import Derived.Test.YtmkhofdkdklpdaaGreatCFcFnClusters
import Derived.Test.YtmkhofdkdklpdaaGreatCProgFnClusters
import Derived.KernelRfl
set_option linter.unusedVariables false
set_option linter.unusedSimpArgs false
namespace Go.Proofs.YtmkhofdkdklpdaaGreat
open Go Go.RowKit M PV
set_option maxRecDepth 10000
attribute [local irreducible] PV.Lcl PV.LclR RV.Lcl
theorem spec_l2Ints {x : List Int} {y : List Int}  : SCall Tryz.prog 37 [(false, [sl .v (x.map cInt)]), (false, [sl .v (y.map cInt)])] (resRV [(false, [val (.bool (deq x y))])]) := by
 refine sF Tryz.func37 fun h0 w0 Fz0 => ?_
 refine sj 0 fun hl0 => ?_
 refine sj 1 fun hl1 => ?_
 refine zbl ?_
 refine zam ?_
 refine zam ?_
 refine rA ?_ (x := B_neq)
 refine sc (fun hba => ?_) (fun hba => ?_)
 exact zcs
 have hl : x.length = y.length := by omega
 refine zct ?_
 refine zas ?_
 refine zcu ?_
 rintro k ⟨hk, ha⟩
 refine za4 ?_
 refine zcv ?_
 refine sc (fun hbb => ?_) (fun hbb => ?_)
 have hlt : k < x.length := by omega
 have hlt2 : k < y.length := by omega
 refine zau ?_
 refine zcw ?_
 refine zcx ?_
 refine zcy ?_
 refine zcx ?_
 refine zcz ?_
 refine dA 255 ?_ (x := B_neq)
 refine sc (fun hbc => ?_) (fun hbc => ?_)
 refine sS [0, 1, 5] [] ?_
 exact zd0
 refine zd1 ?_
 exact zd2
 exact zd3
theorem impl_sameInts {x : List Int} {y : List Int}  : SCall Tryz.prog 96 [(false, [sl .v (x.map cInt)]), (false, [sl .v (y.map cInt)])] (resRV [(false, [val (.bool (deq x y))])]) := by
 refine sF Tryz.func96 fun h0 w0 Fz0 => ?_
 refine sj 0 fun hl0 => ?_
 refine sj 1 fun hl1 => ?_
 refine zbl ?_
 refine zam ?_
 refine zam ?_
 refine rA ?_ (x := B_neq)
 refine sc (fun hba => ?_) (fun hba => ?_)
 exact zcs
 have hl : x.length = y.length := by omega
 refine zct ?_
 refine zam ?_
 refine zbm ?_
 refine sP [0, 1, 4, 12, 13] [] ?_
 refine sL [0, 1, 12] [] (fun k : Nat => k ≤ x.length ∧ x.take k = y.take k) (fun k : Nat => [(13, RV.int (k : Int))]) (fun k : Nat => []) (fun k : Nat => x.length - k) 0 (by exact ⟨by omega, by simp⟩) (by exact aI (by exact rfl) (tI)) (by exact ⟨⟩) ?_
 rintro k ⟨hk, ha⟩
 refine zbn ?_
 refine sc (fun hbb => ?_) (fun hbb => ?_)
 have hlt : k < x.length := by omega
 have hlt2 : k < y.length := by omega
 refine za6 ?_
 refine sS [0, 1, 12, 13] [] ?_
 refine rM ?_
 refine za2 ?_
 refine sP [0, 1, 5, 12, 13] [] ?_
 refine sw_draw hm_ ?_
 refine zcx ?_
 refine zcy ?_
 refine zcx ?_
 refine zcz ?_
 refine dA 255 ?_ (x := B_neq)
 refine sc (fun hbc => ?_) (fun hbc => ?_)
 refine sS [0, 1, 5, 12, 13] [] ?_
 exact zd0
 refine sw_skip ?_
 refine sG [0, 1, 5, 12, 13] [] ?_
 refine zbr ?_
 exact zd4
 refine sw_exit ?_
 refine sS [0, 1, 12, 13] [] ?_
 exact zd5
theorem impl_equalRow {x : Row} {y : Row}  : SCall Tryz.prog 77 [(true, [val (vI x.Id), sl .v (x.Values.map cInt)]), (true, [val (vI y.Id), sl .v (y.Values.map cInt)])] (resRV [(false, [val (.bool (deq x y))])]) := by
 refine sF Tryz.func77 fun h0 w0 Fz0 => ?_
 refine sn 0 1 fun hl0_1 => ?_
 refine sn 1 1 fun hl1_1 => ?_
 refine zd6 ?_
 refine rK ?_
 refine sT [2, 3, 4] [2, 3] ?_
 refine zd7 ?_
 refine zd8 ?_
 refine cx 10 (fun ga sga => ?_) (fun ga sga => ?_)
 refine zd9 ?_
 refine zd9 ?_
 refine rB ga ?_ (x := cL [(false, [sl _ _]), (false, [sl _ _])] [(false, [sl .v _]), (false, [sl .v _])] c_96 (hs := by exact impl_sameInts))
 refine rA ?_ (x := pkT ga)
 exact zda
 refine zaa ?_
 exact zda
theorem spec_l3Same {x : Row} {y : Row}  : SCall Tryz.prog 51 [(true, [val (vI x.Id), sl .v (x.Values.map cInt)]), (true, [val (vI y.Id), sl .v (y.Values.map cInt)])] (resRV [(false, [val (.bool (deq x y))])]) := by
 refine sF Tryz.func51 fun h0 w0 Fz0 => ?_
 refine sn 0 1 fun hl0_1 => ?_
 refine sn 1 1 fun hl1_1 => ?_
 refine zd6 ?_
 refine rK ?_
 refine sT [2, 3, 4] [2, 3] ?_
 refine zd7 ?_
 refine zd8 ?_
 refine cx 10 (fun ga sga => ?_) (fun ga sga => ?_)
 refine zd9 ?_
 refine zd9 ?_
 refine rB ga ?_ (x := cL [(false, [sl _ _]), (false, [sl _ _])] [(false, [sl .v _]), (false, [sl .v _])] c_37 (hs := by exact spec_l2Ints))
 refine rA ?_ (x := pkT ga)
 exact zda
 refine zaa ?_
 exact zda
theorem eqf_Row {p1 p3 : Fl} {x : List Row} {y : List Row}  : SCall Tryz.prog 76 [(false, [sl .v (x.map (cRow p1))]), (false, [sl .v (y.map (cRow p3))]), (false, [PV.clo Tryz.prog (as2 (fun x : Row => (true, [val (vI x.Id), sl .v (x.Values.map cInt)]))) (rsB deq2)])] (resRV [(false, [val (.bool (deq x y))])]) := by
 refine scall_of (rs := [(false, [val (.bool (deq x y))])]) Tryz.func76 rfl (nl rfl) (borA_cons (BorL.cons (bor_sl _) BorL.nil) (borA_cons (BorL.cons (bor_sl _) BorL.nil) (borA_cons (BorL.cons (bor_clo _ _) BorL.nil) borA_nil))) ?_
 intro h0 w0 Fz0
 refine sj 0 fun hl0 => ?_
 refine sj 1 fun hl1 => ?_
 refine zab ?_
 refine sS [0, 1, 2, 6] [] ?_
 refine zcb ?_
 refine zcb ?_
 refine rA ?_ (x := B_neq)
 refine sc (fun hba => ?_) (fun hba => ?_)
 refine sS [0, 1, 2, 6] [] ?_
 exact zdb
 have hl : x.length = y.length := by omega
 refine zaj ?_
 refine sS [0, 1, 2, 6] [] ?_
 refine zcb ?_
 refine zbm ?_
 refine sP [0, 1, 2, 6, 15, 16, 17] [] ?_
 refine sL [0, 1, 2, 15, 16] [] (fun k : Nat => k ≤ x.length ∧ x.take k = y.take k) (fun k : Nat => [(17, RV.int (k : Int))]) (fun k : Nat => []) (fun k : Nat => x.length - k) 0 (by exact ⟨by omega, by simp⟩) (by exact aI (by exact rfl) (tI)) (by exact ⟨⟩) ?_
 rintro k ⟨hk, ha⟩
 refine zbn ?_
 refine sc (fun hbb => ?_) (fun hbb => ?_)
 have hlt : k < x.length := by omega
 have hlt2 : k < y.length := by omega
 refine za6 ?_
 refine sS [0, 1, 2, 15, 16, 17] [] ?_
 refine rM ?_
 refine zcc ?_
 refine rX ?_ (x := (loc_alloc (by decide) z_63 zo_63))
 refine rS ?_
 refine rA ?_ (x := loc_store (ag := true) (vs := [val _, sl _ _]) ty_63 (by exact ⟨⟩) (by exact rfl) (by exact nl rfl))
 refine sT [0, 1, 2, 7, 8, 15, 16, 17] [8] ?_
 refine za7 ?_
 refine zcc ?_
 refine zaq ?_
 refine sw_seq ?_
 refine sO [(0, _), (1, _), (2, _), (7, _), (8, _), (9, _), (15, _), (16, _), (17, _)] [(8, _), (9, (63, [val _, sl _ _]))] ?_
 refine sw_reg ?_
 refine rA ?_ (x := loc_copy (r' := RV.sv false [PV.clo _ _ _]) (.inl rfl) (by decide) (by exact Cp.sv (ToL.cons (PV.To.refl _) ToL.nil) (BorL.cons (bor_clo _ _) BorL.nil)))
 refine rA ?_ (x := lD [val _, sl .v _] ty_63)
 refine rA ?_ (x := lD [val _, sl .v _] ty_63)
 refine rA ?_ (x := loc_callp (x[k], y[k]) (qs := [(true, [val _, sl _ _]), (true, [val _, sl _ _])]) (r := RV.sv false [val _]) (by decide) (by exact (aI (by exact ⟨⟩) (aI (by exact ⟨⟩) tI))) (by exact (aI (aI rfl (ToL.cons (PV.To.refl _) (ToL.cons (PV.to_map (fun _ => (ToL.cons (PV.To.refl _) ToL.nil))) ToL.nil))) (aI (aI rfl (ToL.cons (PV.To.refl _) (ToL.cons (PV.to_map (fun _ => (ToL.cons (PV.To.refl _) ToL.nil))) ToL.nil))) tI))) (by exact rfl))
 refine rA ?_ (x := nT)
 refine sc (fun hbc => ?_) (fun hbc => ?_)
 have hne : ¬ x[k] = y[k] := by intro e; rw [e] at hbc; simp [deq2, deq_self] at hbc
 refine sS [0, 1, 2, 7, 8, 9, 15, 16, 17] [8, 9] ?_
 refine zcd ?_
 exact rb ((deq_false (eq_no hlt hlt2 hne)).symm)
 have heq : x[k] = y[k] := by simpa [deq2, deq_iff] using hbc
 refine sw_skip ?_
 refine sG [0, 1, 2, 7, 8, 9, 15, 16, 17] [8, 9] ?_
 refine zbr ?_
 refine nx (k + 1) (by exact ⟨by omega, eq_succ ha hlt hlt2 heq⟩)
 refine sw_exit ?_
 refine sS [0, 1, 2, 15, 16, 17] [] ?_
 exact zd5
theorem impl_EqualRows {p1 p3 : Fl} {x : List Row} {y : List Row}  : SCall Tryz.prog 43 [(false, [sl .v (x.map (cRow p1))]), (false, [sl .v (y.map (cRow p3))])] (resRV [(false, [val (.bool (deq x y))])]) := by
 refine sF Tryz.func43 fun h0 w0 Fz0 => ?_
 refine sj 0 fun hl0 => ?_
 refine sj 1 fun hl1 => ?_
 refine za0 ?_
 refine sS [0, 1, 4] [] ?_
 refine rA ?_ (x := vM false [sl .v _])
 refine rA ?_ (x := vM false [sl .v _])
 refine rA ?_ (x := loc_call (qs := [(false, [sl _ _]), (false, [sl _ _]), (false, [PV.clo Tryz.prog (as2 (fun x : Row => (true, [val (vI x.Id), sl .v (x.Values.map cInt)]))) (rsB deq2)])]) (as_ := [(false, [sl .v _]), (false, [sl .v _]), (false, [PV.clo Tryz.prog (as2 (fun x : Row => (true, [val (vI x.Id), sl .v (x.Values.map cInt)]))) (rsB deq2)])]) (by decide) c_76 (by exact (aI (by exact ⟨⟩) (aI (by exact ⟨⟩) (aI (ok_clo c_77 (fun x => by exact impl_equalRow)) tI)))) (by exact (aI (aI rfl (ToL.cons PV.to_none ToL.nil)) (aI (aI rfl (ToL.cons PV.to_none ToL.nil)) (aI (aI rfl (ToL.cons (PV.To.refl _) ToL.nil)) tI)))) (by exact eqf_Row))
 refine rS ?_
 exact zbw
theorem spec_EqualRows {p1 p3 : Fl} {x : List Row} {y : List Row}  : SCall Tryz.prog 15 [(false, [sl .v (x.map (cRow p1))]), (false, [sl .v (y.map (cRow p3))])] (resRV [(false, [val (.bool (deq x y))])]) := by
 refine sF Tryz.func15 fun h0 w0 Fz0 => ?_
 refine sj 0 fun hl0 => ?_
 refine sj 1 fun hl1 => ?_
 refine zbl ?_
 refine zcb ?_
 refine zcb ?_
 refine rA ?_ (x := B_neq)
 refine sc (fun hba => ?_) (fun hba => ?_)
 exact zcs
 have hl : x.length = y.length := by omega
 refine zct ?_
 refine zas ?_
 refine zcu ?_
 rintro k ⟨hk, ha⟩
 refine za4 ?_
 refine zcm ?_
 refine sc (fun hbb => ?_) (fun hbb => ?_)
 have hlt : k < x.length := by omega
 have hlt2 : k < y.length := by omega
 refine zau ?_
 refine zcw ?_
 refine zcx ?_
 refine dA 3 ?_ (x := loc_index (by decide) sl_36 (by exact ⟨⟩) (by exact rfl) (by exact getm2 (by omega) rfl) (by exact rfl))
 refine dA 7 ?_ (x := lE [val _, sl .v _] ty_63)
 refine zcx ?_
 refine dA 48 ?_ (x := loc_index (by decide) sl_36 (by exact ⟨⟩) (by exact rfl) (by exact getm2 (by omega) rfl) (by exact rfl))
 refine dA 112 ?_ (x := lE [val _, sl .v _] ty_63)
 refine dA 255 ?_ (x := cL [(true, [val _, sl _ _]), (true, [val _, sl _ _])] [(true, [val _, sl .v _]), (true, [val _, sl .v _])] c_51 (hs := by exact spec_l3Same))
 exact zdc
 exact zd3
theorem spec_l18Lists {p1 p2 p4 p5 : Fl} {x : List (List Row)} {y : List (List Row)}  : SCall Tryz.prog 36 [(false, [sl .v (x.map (cRowS p1 p2))]), (false, [sl .v (y.map (cRowS p4 p5))])] (resRV [(false, [val (.bool (deq x y))])]) := by
 refine sF Tryz.func36 fun h0 w0 Fz0 => ?_
 refine sj 0 fun hl0 => ?_
 refine sj 1 fun hl1 => ?_
 refine zbl ?_
 refine zdd ?_
 refine zdd ?_
 refine rA ?_ (x := B_neq)
 refine sc (fun hba => ?_) (fun hba => ?_)
 exact zcs
 have hl : x.length = y.length := by omega
 refine zct ?_
 refine zas ?_
 refine zcu ?_
 rintro k ⟨hk, ha⟩
 refine za4 ?_
 refine zde ?_
 refine sc (fun hbb => ?_) (fun hbb => ?_)
 have hlt : k < x.length := by omega
 have hlt2 : k < y.length := by omega
 refine zau ?_
 refine zcw ?_
 refine zcx ?_
 refine dA 3 ?_ (x := loc_index (by decide) sl_28 (by exact ⟨⟩) (by exact rfl) (by exact getm2 (by omega) rfl) (by exact rfl))
 refine dA 7 ?_ (x := lE [sl .v _] ty_36)
 refine zcx ?_
 refine dA 48 ?_ (x := loc_index (by decide) sl_28 (by exact ⟨⟩) (by exact rfl) (by exact getm2 (by omega) rfl) (by exact rfl))
 refine dA 112 ?_ (x := lE [sl .v _] ty_36)
 refine dA 255 ?_ (x := cL [(false, [sl _ _]), (false, [sl _ _])] [(false, [sl .v _]), (false, [sl .v _])] c_15 (hs := by exact spec_EqualRows))
 exact zdc
 exact zd3
end Go.Proofs.YtmkhofdkdklpdaaGreat
