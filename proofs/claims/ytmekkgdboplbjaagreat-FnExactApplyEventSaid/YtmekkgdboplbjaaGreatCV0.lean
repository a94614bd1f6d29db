/- What functions of the program compute. No condition. -/
import Derived.Test.YtmekkgdboplbjaaGreatCS0
set_option linter.all false
namespace Go.Proofs.YtmekkgdboplbjaaGreat
open Go Go.RowKit M PV
set_option maxRecDepth 10000
attribute [local irreducible] PV.Lcl PV.LclR RV.Lcl
def Uh {q : Wt} {f : Int} {v : Int}  : aC Tryz.prog 230 [(true, [val (vI q.Id), val (vI q.Wx), sl .v (q.Wu.map bf), sl .v (q.Out.map ak)]), (false, [val (vI f)]), (false, [val (vI v)])] (az [(false, [val (.bool (ie q f v))])]) := by
 refine sF Tryz.func230 fun h0 w0 Fz0 => ?_
 refine sn 0 2 fun hl0_2 => ?_
 refine sn 0 3 fun hl0_3 => ?_
 refine mw ?_
 refine dz ?_
 refine sT [1, 2, 3, 6] [3] ?_
 refine ph ?_
 refine rA ?_ (x := lN dZ)
 refine dI ?_
 refine sP [1, 2, 3, 6, 10, 11, 12] [3] ?_
 refine sL [1, 2, 3, 10, 11] [3] (fun k : Nat => k ≤ q.Wu.length ∧ (q.Wu.take k).all (gX f v) = true) (fun k : Nat => [(12, RV.int (k : Int))]) (fun k : Nat => []) (fun k : Nat => q.Wu.length - k) 0 (by exact ⟨by omega, by simp⟩) (by exact aI (by exact rfl) tI) (by exact tI) ?_
 rintro k ⟨hk, ha⟩
 refine ct ?_
 refine sc (fun hba => ?_) (fun hba => ?_)
 have hlt : k < q.Wu.length := by omega
 refine bB ?_
 refine sT [1, 2, 3, 10, 11, 12] [3] ?_
 refine HO ?_
 refine rX ?_ (x := (bR (by decide) mS tu))
 refine Iu ?_
 refine sO [(1, _), (2, _), (3, _), (8, _), (10, _), (11, _), (12, _)] [(3, _), (8, (178, [val _, val _, val _]))] ?_
 refine ba ?_
 refine zS ?_
 refine rM ?_
 refine rA ?_ (x := d4)
 refine rM ?_
 refine cx 20 (fun ga sga => ?_) (fun ga sga => ?_)
 refine rB ga ?_ (x := sM)
 refine zI ?_
 refine rB ga ?_ (x := lF kS)
 refine Ai ?_
 refine rA ?_ (x := aR ga)
 refine sc (fun hbb => ?_) (fun hbb => ?_)
 have hno : gX f v q.Wu[k] = false := by simp_all [gX]
 refine sS [1, 2, 3, 8, 10, 11, 12] [3, 8] ?_
 exact Ed
 exact EG
 refine py ?_
 exact EG
 have hall : q.Wu.all (gX f v) = true := jm (by rw [show q.Wu.length = k by omega]; exact ha)
 refine bF ?_
 refine sT [1, 2, 3, 10, 11, 12] [3] ?_
 exact Ef
def Lk {x : Wt}  (hb : ce x ≤ 68719476736) : aC Tryz.prog 190 [(true, [val (vI x.Id), val (vI x.Wx), sl .v (x.Wu.map bf), sl .v (x.Out.map ak)])] (az [(true, [val (vI x.Id), val (vI x.Wx), sl ay (x.Wu.map bf), sl aa (x.Out.map ak)])]) := by
 refine sF Tryz.func190 fun h0 w0 Fz0 => ?_
 refine sn 0 2 fun hl0_2 => ?_
 refine sn 0 3 fun hl0_3 => ?_
 have hbu := hb
 simp only [ce, dM, a9, iy] at hbu
 refine zQ ?_
 refine sT [1, 2] [1, 2] ?_
 refine rA ?_ (x := b9 (qs := []) (by decide) dZ mS (by decide) rfl rfl rfl rfl rfl (by exact nl rfl) (by exact tI) rfl)
 refine ph ?_
 refine rA ?_ (x := il (by decide) dZ mS rfl rfl (by decide) (by first | (intro cs hcs; obtain ⟨x, _, rfl⟩ := List.mem_map.1 hcs; exact rfl) | simp) (by first | (intro cs hcs; obtain ⟨x, _, rfl⟩ := List.mem_map.1 hcs; exact (ao.cons (bor_val _) (ao.cons (bor_val _) (ao.cons (bor_val _) ao.nil)))) | simp) (by simp only [ar, aU, List.length_cons, List.length_nil]; omega) (by simp only [ar, aU, List.length_cons, List.length_nil]; omega))
 refine Ip ?_
 refine aP ?_
 refine sO [(1, _), (2, _)] [(1, (52, [val _, val _, sl _ _, sl _ _])), (2, _)] ?_
 refine ba ?_
 refine rA ?_ (x := lF jv)
 refine rA ?_ (x := lD [sl .v _] bq)
 refine rA ?_ (x := cL [(false, [sl _ _])] [(false, [sl .v _])] mO (hs := by exact m8 (by omega)))
 refine rA ?_ (x := lF jv)
 refine jM ?_
 refine sO [(1, _), (2, _)] [(1, (52, [val _, val _, sl _ _, sl _ _])), (2, _)] ?_
 exact Ds
end Go.Proofs.YtmekkgdboplbjaaGreat
