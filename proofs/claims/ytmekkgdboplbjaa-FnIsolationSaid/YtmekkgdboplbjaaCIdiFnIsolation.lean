/- What functions of the program compute. No condition. -/
import Derived.Test.YtmekkgdboplbjaaCZMFnIsolation
import Derived.Test.YtmekkgdboplbjaaCFcFnIsolation
import Derived.Test.YtmekkgdboplbjaaCQuerFnIsolation
import Derived.Test.YtmekkgdboplbjaaCEngFnIsolation
import Derived.KernelRfl
set_option linter.unusedVariables false
set_option linter.unusedSimpArgs false
namespace Go.Proofs.Ytmekkgdboplbjaa
open Go Go.RowKit M PV
set_option maxRecDepth 10000
attribute [local irreducible] PV.Lcl PV.LclR RV.Lcl
theorem impl_copyQuery {x : Query}  (hb : wtQuery x ≤ 68719476736) : SCall Try.prog 22 [(true, [val (vI x.Id), val (vI x.Tenant), sl .v (x.Conds.map cCond), sl .v (x.Out.map cInt)])] (resRV [(true, [val (vI x.Id), val (vI x.Tenant), sl (.own 41 3) (x.Conds.map cCond), sl (.own 3 1) (x.Out.map cInt)])]) := by
 refine sF Try.func22 fun h0 w0 Fz0 => ?_
 refine sn 0 2 fun hl0_2 => ?_
 refine sn 0 3 fun hl0_3 => ?_
 have hbu := hb
 simp only [wtQuery, wtIntS_len, wtInt, wtCondS] at hbu
 refine zbh ?_
 refine rX ?_ (x := (loc_alloc (by decide) z_38 zo_38))
 refine sT [1, 2] [1, 2] ?_
 refine rA ?_ (x := loc_bslice (qs := []) (by decide) sl_36 z_41 (by decide) rfl rfl rfl rfl rfl (by exact nl rfl) (by exact ⟨⟩) rfl)
 refine zbs ?_
 refine rA ?_ (x := loc_appendb (by decide) sl_36 z_41 rfl rfl (by decide) (by first | (intro cs hcs; obtain ⟨x, _, rfl⟩ := List.mem_map.1 hcs; exact rfl) | simp) (by first | (intro cs hcs; obtain ⟨x, _, rfl⟩ := List.mem_map.1 hcs; exact (BorL.cons (bor_val _) (BorL.cons (bor_val _) (BorL.cons (bor_val _) BorL.nil)))) | simp) (by simp only [List.length_map, List.length_append, List.length_cons, List.length_nil]; omega) (by simp only [List.length_map, List.length_append, List.length_cons, List.length_nil]; omega))
 refine zf2 ?_
 refine sw_seq ?_
 refine zf3 ?_
 refine rA ?_ (x := lF fd_38_3)
 refine rA ?_ (x := lD [sl .v _] ty_27)
 refine rA ?_ (x := cL [(false, [sl _ _])] [(false, [sl .v _])] c_43 (hs := by exact impl_copyInts (by omega)))
 refine rA ?_ (x := lF fd_38_3)
 refine zf4 ?_
 refine zf3 ?_
 refine zf5 ?_
 refine sw_ret ?_
 exact (Exists.intro 2 (Exists.intro _ (aI (by exact rfl) (aI (by exact rfl) (aI ty_38 (aI (fun h => nomatch h) tI))))))
end Go.Proofs.Ytmekkgdboplbjaa
