/- What functions of the program compute. No condition. -/
import Derived.Test.YteflgldonmgejaaGreatCZMChooseOrder
import Derived.Test.YteflgldonmgejaaGreatCFcChooseOrder
import Derived.Test.YteflgldonmgejaaGreatCDb
import Derived.KernelRfl
set_option linter.unusedVariables false
set_option linter.unusedSimpArgs false
namespace Go.Proofs.YteflgldonmgejaaGreat
open Go Go.RowKit M PV
set_option maxRecDepth 10000
attribute [local irreducible] PV.Lcl PV.LclR RV.Lcl
theorem held_IntS {x : List Int} {k : Int}  (h0k : 0 ≤ k) (hbk : (mkL mkE_Int x k).2 ≤ 4611686018427387904): SCall Tryz.prog 19 [(false, [sl .v ((mkL mkE_Int x k).1.map cInt)]), (false, [val (vI k)])] (resRV [(false, [val (vI (mkL mkE_Int x k).2)])]) := by
 refine sF Tryz.func19 fun h0 w0 Fz0 => ?_
 refine sj 0 fun hl0 => ?_
 have hlm : (mkL mkE_Int x k).1.length = x.length := mkL_len _ _
 have hmono := mkL_take_le mkE_Int_le x
 have hmono0 := fun i => mkL_le mkE_Int_le (x.take i) k
 refine zbu ?_
 refine zdr ?_
 refine sL [0] [] (fun i : Nat => i ≤ x.length) (fun i : Nat => [(1, RV.int (mkL mkE_Int (x.take i) k).2), (5, RV.int (i : Int))]) (fun i : Nat => []) (fun i : Nat => x.length - i) 0 (by omega) (by exact aI (by exact rfl) (aI (by exact rfl) (tI))) (by exact ⟨⟩) ?_
 rintro i hi
 refine zb2 ?_
 refine sc (fun hba => ?_) (fun hba => ?_)
 have hlt : i < x.length := by omega
 have hk0 := hmono0 i
 have hk1 := hmono (i + 1) k
 rw [mkL_succ hlt] at hk1
 dsimp only at hk1
 simp only [mkE_Int] at hk1
 refine zd5 ?_
 refine sS [0, 1, 5] [] ?_
 refine zds ?_
 refine rA ?_ (x := loc_index (by decide) sl_25 (by exact ⟨⟩) (by exact rfl) (by exact mkL_getc hlt rfl) (by exact rfl))
 refine rA ?_ (x := lE [val _] ty_3)
 refine rM ?_
 refine rA ?_ (x := B_neq)
 refine sc (fun hbb => ?_) (fun hbb => ?_)
 first | exact absurd rfl hbb | omega
 refine zaj ?_
 refine sG [0, 1, 5] [] ?_
 refine zd8 ?_
 refine nx (i + 1) (by omega) (e := (by exact aI (by exact int_eq (by rw [mkL_succ hlt]; rfl)) (aI (by exact rfl) (tI))))
 have hend : i = x.length := by omega
 refine zak ?_
 exact (aI (by refine int_eq ?_; first | rfl | rw [hend, List.take_length]) tI)
end Go.Proofs.YteflgldonmgejaaGreat
