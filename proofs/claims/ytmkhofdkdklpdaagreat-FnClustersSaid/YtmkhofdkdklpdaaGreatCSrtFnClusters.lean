/- What functions of the program compute. No condition. -/
import Derived.Test.YtmkhofdkdklpdaaGreatCZMFnClusters
import Derived.Test.YtmkhofdkdklpdaaGreatCFcFnClusters
import Derived.Test.YtmkhofdkdklpdaaGreatCProgFnClusters
import Derived.Test.YtmkhofdkdklpdaaGreatCDsI
import Derived.KernelRfl
set_option linter.unusedVariables false
set_option linter.unusedSimpArgs false
namespace Go.Proofs.YtmkhofdkdklpdaaGreat
open Go Go.RowKit M PV
set_option maxRecDepth 10000
attribute [local irreducible] PV.Lcl PV.LclR RV.Lcl
theorem FSrt_ui_111 : Tryz.prog.underlying 111 = some (.int .u64) := by kernel_rfl
theorem FSrt_ui_3 : Tryz.prog.underlying 3 = some (.int .i64) := by kernel_rfl
theorem FSrt_ui_5 : Tryz.prog.underlying 5 = some (.int .u8) := by kernel_rfl
theorem FSrt_ui_91 : Tryz.prog.underlying 91 = some (.int .u64) := by kernel_rfl
theorem FSrt_us_9 : Tryz.prog.underlying 9 = some .string := by kernel_rfl
theorem cmp_isNaN {x : Int}  : SCall Tryz.prog 114 [(false, [val (vI x)])] (resRV [(false, [val (.bool false)])]) := by
 refine sF Tryz.func114 fun h0 w0 Fz0 => ?_
 refine za0 ?_
 refine sS [0, 2] [] ?_
 refine zbp ?_
 refine rA ?_ (x := B_neq)
 refine zan ?_
 exact rb (by simp)
theorem cmp_Less {x : Int} {y : Int}  : SCall Tryz.prog 106 [(false, [val (vI x)]), (false, [val (vI y)])] (resRV [(false, [val (.bool (decide (x < y)))])]) := by
 refine sF Tryz.func106 fun h0 w0 Fz0 => ?_
 refine za0 ?_
 refine sS [0, 1, 4] [] ?_
 refine zig ?_
 refine rM ?_
 refine cx 7 (fun ga sga => ?_) (fun ga sga => ?_)
 refine rB ga ?_ (x := sM)
 refine rB ga ?_ (x := cL [(false, [val _])] [(false, [val _])] c_114 (hs := by exact cmp_isNaN))
 refine rB ga ?_ (x := nT)
 refine zdi ?_
 refine cx 12 (fun gb sgb => ?_) (fun gb sgb => ?_)
 refine zef ?_
 exact zih
 refine rB gb ?_ (x := sM)
 refine rB gb ?_ (x := sM)
 refine rB gb ?_ (x := B_lss)
 refine rA ?_ (x := pkF gb)
 exact zih
 refine zdn ?_
 refine RunS.cases (s := 12) rfl (fun g3 => nomatch g3) (fun g3 => ?_)
 refine rB g3 ?_ (x := sM)
 refine rB g3 ?_ (x := sM)
 refine rB g3 ?_ (x := B_lss)
 refine rA ?_ (x := pkF g3)
 exact zih
theorem bits_Len64 {x : Int}  (hx : 0 ≤ x ∧ x ≤ 12) : SCall Tryz.prog 110 [(false, [val (.int .u64 x)])] (resRV [(false, [val (vI (lenT x))])]) := by
 refine sF Tryz.func110 fun h0 w0 Fz0 => ?_
 have hx12 : x = 0 ∨ x = 1 ∨ x = 2 ∨ x = 3 ∨ x = 4 ∨ x = 5 ∨ x = 6 ∨ x = 7 ∨ x = 8 ∨ x = 9 ∨ x = 10 ∨ x = 11 ∨ x = 12 := by omega
 have hlt : 0 ≤ lenT x ∧ lenT x ≤ 4 := by rcases hx12 with rfl | rfl | rfl | rfl | rfl | rfl | rfl | rfl | rfl | rfl | rfl | rfl | rfl <;> decide
 refine zab ?_
 refine sS [0, 2] [] ?_
 refine rM ?_
 refine rA ?_ (x := U_geq)
 refine sc (fun hba => ?_) (fun hba => ?_)
 omega
 refine zaj ?_
 refine sS [0, 2] [] ?_
 refine rM ?_
 refine rA ?_ (x := U_geq)
 refine sc (fun hbb => ?_) (fun hbb => ?_)
 omega
 refine zaj ?_
 refine sS [0, 2] [] ?_
 refine rM ?_
 refine rA ?_ (x := U_geq)
 refine sc (fun hbc => ?_) (fun hbc => ?_)
 omega
 refine sw_skip ?_
 refine sS [0, 2] [] ?_
 refine zbp ?_
 refine rA ?_ (x := loc_conv FSrt_ui_111 FSrt_ui_5 (by first | exact (congrArg (IntKind.wrap .u8) fdiv2).trans (IntWalk.u8_in _ (by omega)) | exact IntWalk.u8_in _ (by omega)))
 refine rA ?_ (x := loc_sidx (j := (lenT x)) FSrt_us_9 (hi := by omega) (hb := (by rcases hx12 with rfl | rfl | rfl | rfl | rfl | rfl | rfl | rfl | rfl | rfl | rfl | rfl | rfl <;> exact ⟨_, rfl, rfl⟩)))
 refine rA ?_ (x := loc_conv FSrt_ui_5 FSrt_ui_3 (by first | exact (congrArg (IntKind.wrap .i64) fdiv2).trans (IntWalk.i64_in _ (by omega)) | exact IntWalk.i64_in _ (by omega)))
 refine rA ?_ (x := B_add)
 refine zan ?_
 exact (aI (by refine int_eq ?_; omega) tI)
theorem bits_Len {x : Int}  (hx : 0 ≤ x ∧ x ≤ 12) : SCall Tryz.prog 88 [(false, [val (.int .u64 x)])] (resRV [(false, [val (vI (lenT x))])]) := by
 refine sF Tryz.func88 fun h0 w0 Fz0 => ?_
 refine zab ?_
 refine sw_condF ?_
 refine sw_skip ?_
 refine sS [0, 2] [] ?_
 refine rM ?_
 refine rA ?_ (x := cL [(false, [val _])] [(false, [val _])] c_110 (hs := by exact (bits_Len64 (by omega))))
 refine rS ?_
 exact zbw
theorem ins_sort {m cp : Nat} {jk : List Value} {xs : List Int} {a : Int} {b : Int}  (hm : m = (xs).length) (ha0 : a = 0) (hb0 : b = (xs.length : Int)) (hn1 : 1 ≤ xs.length) (hn2 : xs.length ≤ 1000000) : ACall Tryz.prog 100 3 m cp (arr cInt xs jk) (arr cInt (srt xs xs.length) jk) [(false, [val (vI a)]), (false, [val (vI b)])] (resRV []) := by
 refine acall_of (rs := []) Tryz.func100 rfl (nl rfl) (nl rfl) ?_
 intro g_ h0 w0 Fz0 hcp_
 refine sR ?_
 refine za8 ?_
 refine sw_block ?_
 refine sO [(0, _), (1, _), (2, _), (6, _), (5000, _), (5001, _)] [(0, (3, arr cInt _ _))] ?_
 refine sL [0, 1, 2, 5000, 5001] [] (fun k : Nat => 1 ≤ k ∧ k ≤ xs.length) (fun k : Nat => [(6, RV.int (k : Int))]) (fun k : Nat => [(0, (3, arr cInt (srt xs k ++ xs.drop k) jk))]) (fun k : Nat => xs.length - k) 1 (by omega) (by exact aI (by exact int_eq (by omega)) (tI)) (by exact aI (by exact congrArg (fun z_ => some (3, arr cInt z_ jk)) (srt_one hn1)) (tI)) ?_
 rintro k ⟨hk1, hk⟩
 refine zfo ?_
 refine sc (fun hba => ?_) (fun hba => ?_)
 have hlt : k < xs.length := by omega
 refine zau ?_
 refine sO [(0, _), (1, _), (2, _), (6, _), (5000, _), (5001, _)] [(0, (3, arr cInt _ _))] ?_
 refine zah ?_
 refine zbb ?_
 refine sP [0, 1, 2, 6, 7, 5000, 5001] [0] ?_
 refine sL [0, 1, 2, 6, 5000, 5001] [] (fun j : Nat => j ≤ k ∧ insAt (srt xs k) (xs.getD k 0) j = insAt (srt xs k) (xs.getD k 0) k) (fun j : Nat => [(7, RV.int (j : Int))]) (fun j : Nat => [(0, (3, arr cInt (cont (srt xs k) (xs.getD k 0) (xs.drop (k + 1)) j) jk))]) (fun j : Nat => j) k (by exact ⟨Nat.le_refl _, rfl⟩) (by exact aI (by exact rfl) (tI)) (by exact aI (by exact congrArg (fun z_ => some (3, arr cInt z_ jk)) (cont_start hlt)) (tI)) ?_
 rintro j ⟨hj, haj⟩
 have hcl : (cont (srt xs k) (xs.getD k 0) (xs.drop (k + 1)) j).length = xs.length := by rw [cont_len (by rw [srt_len]; exact hj), srt_len, List.length_drop]; omega
 refine zae ?_
 refine zaf ?_
 refine dA 0 ?_ (x := sM)
 refine dA 3 ?_ (x := B_gtr)
 refine dA 7 ?_ (x := sM)
 refine dx 19 (fun ga sga => ?_) (fun ga sga => ?_)
 refine zii ?_
 refine dB 63 ga ?_ (x := loc_gidx (k := j) (G := 5001) (by decide) sl_25 (by exact ⟨⟩) (by omega) (by omega))
 refine dB 127 ga ?_ (x := loc_aload (f := cInt) (e := 1) (k := j) (qs := [val _]) (fun _ => rfl) rfl (by omega) (by decide) ty_3 (fun _ => rfl) (by exact (ToL.cons (PV.To.refl _) ToL.nil)) (by exact (BorL.cons (bor_val _) BorL.nil)))
 refine zii ?_
 refine dB 527 ga ?_ (x := B_sub)
 refine dB 1807 ga ?_ (x := loc_gidx (k := (j - 1)) (G := 5001) (by decide) sl_25 (by exact ⟨⟩) (by omega) (by omega))
 refine dB 3855 ga ?_ (x := loc_aload (f := cInt) (e := 1) (k := (j - 1)) (qs := [val _]) (fun _ => rfl) rfl (by omega) (by decide) ty_3 (fun _ => rfl) (by exact (ToL.cons (PV.To.refl _) ToL.nil)) (by exact (BorL.cons (bor_val _) BorL.nil)))
 refine dB 8191 ga ?_ (x := cL [(false, [val _]), (false, [val _])] [(false, [val _]), (false, [val _])] c_106 (hs := by exact cmp_Less))
 refine dA 16383 ?_ (x := pkT ga)
 refine sc (fun hbb => ?_) (fun hbb => ?_)
 have hj1 : 1 ≤ j := by omega
 have hlt2 : xs.getD k 0 < (srt xs k).getD (j - 1) 0 := by have hh := hbb; rwa [cont_at (by rw [srt_len]; exact hj), cont_pre hj1 (by rw [srt_len]; exact hj)] at hh
 refine za6 ?_
 refine sO [(0, _), (1, _), (2, _), (6, _), (7, _), (5000, _), (5001, _)] [(0, (3, arr cInt _ _))] ?_
 refine sw_draw hm_ ?_
 refine zij ?_
 refine zij ?_
 refine dA 8 ?_ (x := B_sub)
 refine zij ?_
 refine dA 64 ?_ (x := B_sub)
 refine dA 224 ?_ (x := loc_gidx (k := (j - 1)) (G := 5001) (by decide) sl_25 (by exact ⟨⟩) (by omega) (by omega))
 refine dA 480 ?_ (x := loc_aload (f := cInt) (e := 1) (k := (j - 1)) (qs := [val _]) (fun _ => rfl) rfl (by omega) (by decide) ty_3 (fun _ => rfl) (by exact (ToL.cons (PV.To.refl _) ToL.nil)) (by exact (BorL.cons (bor_val _) BorL.nil)))
 refine zij ?_
 refine dA 3072 ?_ (x := loc_gidx (k := j) (G := 5001) (by decide) sl_25 (by exact ⟨⟩) (by omega) (by omega))
 refine dA 7168 ?_ (x := loc_aload (f := cInt) (e := 1) (k := j) (qs := [val _]) (fun _ => rfl) rfl (by omega) (by decide) ty_3 (fun _ => rfl) (by exact (ToL.cons (PV.To.refl _) ToL.nil)) (by exact (BorL.cons (bor_val _) BorL.nil)))
 refine dA 16355 ?_ (x := loc_gidx (k := j) (G := 5001) (by decide) sl_25 (by exact ⟨⟩) (by omega) (by omega))
 refine dA 32739 ?_ (x := loc_astore (f := cInt) (e := 1) (k := j) (ag := false) (vs := [val _]) _ (fun _ => rfl) rfl (by first | omega | (simp only [List.length_set]; omega)) ty_3 (by exact ⟨⟩) (by exact rfl))
 refine dA 65535 ?_ (x := loc_gidx (k := (j - 1)) (G := 5001) (by decide) sl_25 (by exact ⟨⟩) (by omega) (by omega))
 refine dA 131071 ?_ (x := loc_astore (f := cInt) (e := 1) (k := (j - 1)) (ag := false) (vs := [val _]) _ (fun _ => rfl) rfl (by first | omega | (simp only [List.length_set]; omega)) ty_3 (by exact ⟨⟩) (by exact rfl))
 refine sG [0, 1, 2, 6, 7, 5000, 5001] [0] ?_
 refine zbf ?_
 refine nx (j - 1) (by exact ⟨by omega, by rw [insAt_go hj1 hlt2, haj]⟩) (e := (by exact aI (by exact int_eq (by omega)) (tI))) (f := (by exact aI (by exact congrArg (fun z_ => some (3, arr cInt z_ jk)) (cont_swap hj1 (by rw [srt_len]; exact hj))) (tI)))
 have hst : insAt (srt xs k) (xs.getD k 0) j = j := insAt_stop (by first | exact .inl (by omega) | (by_cases h0 : j = 0; exact .inl h0; right; have hh := hbb; rwa [cont_at (by rw [srt_len]; exact hj), cont_pre (by omega) (by rw [srt_len]; exact hj)] at hh))
 exact zik
 refine dF 15 ga ?_
 refine dF 15 ga ?_
 refine dF 63 ga ?_
 refine dF 127 ga ?_
 refine dF 15 ga ?_
 refine dF 15 ga ?_
 refine dF 527 ga ?_
 refine dF 1807 ga ?_
 refine dF 3855 ga ?_
 refine dF 8191 ga ?_
 refine dA 16383 ?_ (x := pkF ga)
 refine scF ?_
 have hst : insAt (srt xs k) (xs.getD k 0) j = j := insAt_stop (by first | exact .inl (by omega) | (by_cases h0 : j = 0; exact .inl h0; right; have hh := hb_; rwa [cont_at (by rw [srt_len]; exact hj), cont_pre (by omega) (by rw [srt_len]; exact hj)] at hh))
 exact zik
 have hend : k = xs.length := by omega
 refine sw_exit ?_
 exact ⟨(by exact congrArg (fun z_ => some (3, arr cInt z_ jk)) (by rw [show k = xs.length by omega]; exact srt_all)), rfl, tI⟩
theorem pdq_sort {m cp : Nat} {jk : List Value} {xs : List Int} {a : Int} {b : Int} {q : Int}  (hm : m = (xs).length) (ha0 : a = 0) (hb0 : b = (xs.length : Int)) (hn1 : 1 ≤ xs.length) (hn2 : xs.length ≤ 12) : ACall Tryz.prog 87 3 m cp (arr cInt xs jk) (arr cInt (srt xs xs.length) jk) [(false, [val (vI a)]), (false, [val (vI b)]), (false, [val (vI q)])] (resRV []) := by
 refine acall_of (rs := []) Tryz.func87 rfl (nl rfl) (nl rfl) ?_
 intro g_ h0 w0 Fz0 hcp_
 refine zab ?_
 refine sO [(0, _), (1, _), (2, _), (3, _), (8, _), (5000, _), (5001, _)] [(0, (3, arr cInt _ _))] ?_
 refine sw_reg ?_
 refine zas ?_
 refine sP [0, 1, 2, 3, 8, 9, 5000, 5001] [0] ?_
 refine sL [0, 5000, 5001] [0] (fun _u : Unit => True) (fun _u : Unit => [(1, RV.int a), (2, RV.int b), (3, RV.int q)]) (fun _u : Unit => []) (fun _u : Unit => 0) () tI (by exact aI (by exact rfl) (aI (by exact rfl) (aI (by exact rfl) (tI)))) (by exact ⟨⟩) ?_
 rintro _u _
 refine sw_block ?_
 refine sR ?_
 refine zil ?_
 refine za2 ?_
 refine sw_seq ?_
 refine sO [(0, _), (1, _), (2, _), (3, _), (10, _), (5000, _), (5001, _)] [(0, (3, arr cInt _ _))] ?_
 refine zah ?_
 refine rA ?_ (x := B_leq)
 refine sc (fun hba => ?_) (fun hba => ?_)
 refine sw_seq ?_
 refine sP [0, 1, 2, 3, 10, 5000, 5001] [0] ?_
 refine sw_regL ?_
 refine wA ?_ (x := vM false [val _])
 refine wA ?_ (x := sM)
 refine wA ?_ (x := sM)
 refine wO [(0, _), (1, _), (2, _), (3, _), (10, _), (24, _), (25, _), (26, _), (5000, _), (5001, _)] [(0, _)] ?_
 refine swl_acall (bx := 0) (G := 5001) (L := L0w) (qs := [(false, [val _]), (false, [val _])]) (as_ := [(false, [val _]), (false, [val _])]) (by decide) c_100 rfl (by exact rfl) (by exact rfl) (by exact rfl) (by exact ⟨rfl, rfl, ⟨⟩⟩) (by exact (aI (by exact ⟨⟩) (aI (by exact ⟨⟩) tI))) (by decide) (by exact (aI (aI rfl (OwnTo.cons OTo.refl OwnTo.nil)) (aI (aI rfl (OwnTo.cons OTo.refl OwnTo.nil)) tI))) (by exact (ins_sort (by first | rfl | exact List.length_map _ | assumption) (by first | rfl | omega) (by omega) (by omega) (by omega))) (fun x hx => hx.elim) (by exact (aI (.inr (RV.lcl_sv (LclC.cons lcl_val LclC.nil))) (aI (.inr (RV.lcl_sv (LclC.cons lcl_val LclC.nil))) (aI (.inr (RV.lcl_sv (LclC.cons lcl_val LclC.nil))) (aI (.inr (RV.lcl_sv (LclC.cons lcl_val LclC.nil))) (aI (.inr (RV.lcl_sv (LclC.cons lcl_val LclC.nil))) (aI (.inr (RV.lcl_sv (LclC.cons lcl_val LclC.nil))) (aI (.inl (by simp [tmpsO])) (aI (.inl (by simp [tmpsO])) (aI (.inr RV.lcl_phi) (aI (.inr RV.lcl_gat) tI))))))))))) (by exact (aI (.inl rfl) tI)) ?_
 refine swl_nil ?_
 refine sw_ret ?_
 exact zim
 omega
theorem sl_sort {m cp : Nat} {jk : List Value} {xs : List Int}  (hm : m = (xs).length) (hn1 : 1 ≤ xs.length) (hn2 : xs.length ≤ 12) : ACall Tryz.prog 61 3 m cp (arr cInt xs jk) (arr cInt (srt xs xs.length) jk) [] (resRV []) := by
 refine acall_of (rs := []) Tryz.func61 rfl (nl rfl) (nl rfl) ?_
 intro g_ h0 w0 Fz0 hcp_
 refine sR ?_
 refine rA ?_ (x := vM false [val _])
 refine rA ?_ (x := loc_glen (G := 5001) (by decide) sl_25)
 refine rS ?_
 refine sO [(0, _), (2, _), (5000, _), (5001, _)] [(0, (3, arr cInt _ _))] ?_
 refine sw_regL ?_
 refine wA ?_ (x := vM false [val _])
 refine wA ?_ (x := sM)
 refine wA ?_ (x := sM)
 refine wA ?_ (x := loc_conv FSrt_ui_3 FSrt_ui_91 (by first | exact (congrArg (IntKind.wrap .u64) fdiv2).trans (IntWalk.u64_in _ (by omega)) | exact IntWalk.u64_in _ (by omega)))
 refine wA ?_ (x := cL [(false, [val _])] [(false, [val _])] c_88 (hs := by exact (bits_Len (by omega))))
 refine wO [(0, _), (2, _), (5, _), (6, _), (7, _), (8, _), (9, _), (5000, _), (5001, _)] [(0, _)] ?_
 refine swl_acall (bx := 0) (G := 5001) (L := L0w) (qs := [(false, [val _]), (false, [val _]), (false, [val _])]) (as_ := [(false, [val _]), (false, [val _]), (false, [val _])]) (by decide) c_87 rfl (by exact rfl) (by exact rfl) (by exact rfl) (by exact ⟨rfl, rfl, ⟨⟩⟩) (by exact (aI (ok_sc rfl) (aI (by exact ⟨⟩) (aI (by exact ⟨⟩) tI)))) (by decide) (by exact (aI (aI rfl (OwnTo.cons OTo.refl OwnTo.nil)) (aI (aI rfl (OwnTo.cons OTo.refl OwnTo.nil)) (aI (aI rfl (OwnTo.cons OTo.refl OwnTo.nil)) tI)))) (by exact (pdq_sort (by first | rfl | exact List.length_map _ | assumption) (by first | rfl | omega) (by omega) (by omega) (by omega))) (fun x hx => hx.elim) (by exact (aI (.inr (RV.lcl_sv (LclC.cons lcl_val LclC.nil))) (aI (.inr (RV.lcl_sv (LclC.cons lcl_val LclC.nil))) (aI (.inr (RV.lcl_sv (LclC.cons lcl_val LclC.nil))) (aI (.inl (by simp [tmpsO])) (aI (.inr (RV.lcl_sv (LclC.cons lcl_val LclC.nil))) (aI (.inr (RV.lcl_sv (LclC.cons lcl_val LclC.nil))) (aI (.inl (by simp [tmpsO])) (aI (.inr RV.lcl_phi) (aI (.inr RV.lcl_gat) tI)))))))))) (by exact (aI (.inl rfl) tI)) ?_
 refine swl_nil ?_
 exact zim
end Go.Proofs.YtmkhofdkdklpdaaGreat
