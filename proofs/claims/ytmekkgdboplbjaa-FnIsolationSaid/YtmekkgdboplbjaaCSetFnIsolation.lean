/- What functions of the program compute. No condition. -/
import Derived.Test.YtmekkgdboplbjaaCZMFnIsolation
import Derived.Test.YtmekkgdboplbjaaCFcFnIsolation
import Derived.Test.YtmekkgdboplbjaaCProgFnIsolation
import Derived.KernelRfl
set_option linter.unusedVariables false
set_option linter.unusedSimpArgs false
namespace Go.Proofs.Ytmekkgdboplbjaa
open Go Go.RowKit M PV
set_option maxRecDepth 10000
attribute [local irreducible] PV.Lcl PV.LclR RV.Lcl
theorem impl_IsSet {l : List Int}  : SCall Try.prog 82 [(false, [sl .v (l.map cInt)])] (resRV [(false, [val (.bool (okSet l))])]) := by
 refine sF Try.func82 fun h0 w0 Fz0 => ?_
 refine sj 0 fun hl0 => ?_
 refine zat ?_
 refine za3 ?_
 refine za4 ?_
 refine sP [0, 2, 5, 6, 7] [] ?_
 refine sL [0, 5, 6] [] (fun k : Nat => k ≤ l.length ∧ okSetTo l k = true) (fun k : Nat => [(7, RV.int (k : Int))]) (fun k : Nat => []) (fun k : Nat => l.length - k) 0 (by exact ⟨by omega, rfl⟩) (by exact aI (by exact rfl) (tI)) (by exact ⟨⟩) ?_
 rintro k ⟨hk, ha⟩
 refine za5 ?_
 refine sc (fun hba => ?_) (fun hba => ?_)
 have hlt : k < l.length := by omega
 have hgk : l.getD k 0 = l[k] := by simp [hlt]
 have hgp : 0 < k → l.getD (k - 1) 0 = l[k - 1] := fun h => by rw [List.getD_eq_getElem?_getD, List.getElem?_eq_getElem (by omega)]; rfl
 refine za6 ?_
 refine sS [0, 5, 6, 7] [] ?_
 refine rM ?_
 refine za7 ?_
 refine rS ?_
 refine sS [0, 3, 4, 5, 6, 7] [] ?_
 refine rM ?_
 refine rA ?_ (x := B_lss)
 refine rM ?_
 refine cx 14 (fun ga sga => ?_) (fun ga sga => ?_)
 refine zbk ?_
 refine RunS.cases (s := 18) rfl (fun g3 => ?_) (fun g3 => nomatch g3)
 refine ze7 ?_
 refine scT ?_
 exact ze8
 refine rB ga ?_ (x := sM)
 refine rB ga ?_ (x := B_geq)
 refine zbo ?_
 refine cx 18 (fun gb sgb => ?_) (fun gb sgb => ?_)
 refine zbp ?_
 refine scT ?_
 exact ze8
 refine rB gb ?_ (x := sM)
 refine rB gb ?_ (x := B_gtr)
 refine rB gb ?_ (x := sM)
 refine cx 21 (fun gc sgc => ?_) (fun gc sgc => ?_)
 refine rB gc ?_ (x := vM false [sl .v _])
 refine rB gc ?_ (x := sM)
 refine rB gc ?_ (x := B_sub)
 refine rB gc ?_ (x := loc_index (k := k - 1) (by decide) sl_27 (by exact ⟨⟩) (by omega) (by exact getm2 (by omega) rfl) (by exact rfl))
 refine rB gc ?_ (x := lE [val _] ty_3)
 refine rB gc ?_ (x := sM)
 refine rB gc ?_ (x := B_geq)
 refine rB gb ?_ (x := pkT gc)
 refine rA ?_ (x := pkF gb)
 refine sc (fun hbb => ?_) (fun hbb => ?_)
 exact ze8
 exact ze9
 refine zf gc ?_
 refine rB gb ?_ (x := pkF gc)
 refine rA ?_ (x := pkF gb)
 refine scF ?_
 exact ze9
 have hend : k = l.length := by omega
 refine sw_exit ?_
 refine sS [0, 5, 6, 7] [] ?_
 refine za9 ?_
 exact rb (by subst hend; exact ha.symm)
end Go.Proofs.Ytmekkgdboplbjaa
