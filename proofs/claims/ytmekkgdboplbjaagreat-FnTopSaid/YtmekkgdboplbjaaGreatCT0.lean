/- What functions of the program compute. No condition. -/
import Derived.Test.YtmekkgdboplbjaaGreatCQ0
set_option linter.all false
namespace Go.Proofs.YtmekkgdboplbjaaGreat
open Go Go.RowKit M PV
set_option maxRecDepth 10000
attribute [local irreducible] PV.Lcl PV.LclR RV.Lcl
def acZ {q : aeA} {f : Int} {v : Int}  : aN Tryz.prog 230 [(true, [val (vI q.Id), val (vI q.aeE), sl .v (q.aeB.map bH), sl .v (q.Out.map am)]), (false, [val (vI f)]), (false, [val (vI v)])] (aJ [(false, [val (.bool (iU q f v))])]) := by
 refine sF Tryz.func230 fun h0 w0 Fz0 => ?_
 refine sn 0 2 fun hl0_2 => ?_
 refine sn 0 3 fun hl0_3 => ?_
 refine nk ?_
 refine eH ?_
 refine sT [1, 2, 3, 6] [3] ?_
 refine vn ?_
 refine rA ?_ (x := lN gH)
 refine eo ?_
 refine sP [1, 2, 3, 6, 10, 11, 12] [3] ?_
 refine sL [1, 2, 3, 10, 11] [3] (fun k : Nat => k ≤ q.aeB.length ∧ (q.aeB.take k).all (iA f v) = true) (fun k : Nat => [(12, RV.int (k : Int))]) (fun k : Nat => []) (fun k : Nat => q.aeB.length - k) 0 (by exact ⟨by omega, by simp⟩) (by exact aI (by exact rfl) tI) (by exact tI) ?_
 rintro k ⟨hk, ha⟩
 refine cn ?_
 refine sc ?_ ?_ <;> intro hba
 have hlt : k < q.aeB.length := by omega
 refine bi ?_
 refine sT [1, 2, 3, 10, 11, 12] [3] ?_
 refine DK ?_
 refine Df ?_
 refine sO [(1, _), (2, _), (3, _), (8, _), (10, _), (11, _), (12, _)] [(3, _), (8, (178, [val _, val _, val _]))] ?_
 refine bd ?_
 refine rA ?_ (x := lF oF)
 refine oo ?_
 refine rA ?_ (x := dQ)
 refine rM ?_
 refine cx 20 (fun ga sga => ?_) (fun ga sga => ?_)
 refine rB ga ?_ (x := sM)
 refine DB ?_
 refine rB ga ?_ (x := lF rj)
 refine rB ga ?_ (x := lD [val _] az)
 refine sI ?_
 refine rA ?_ (x := aO ga)
 refine sc ?_ ?_ <;> intro hbb
 have hno : iA f v q.aeB[k] = false := by simp_all [iA]
 refine sS [1, 2, 3, 8, 10, 11, 12] [3, 8] ?_
 exact Jr
 exact Kb
 refine mD ?_
 exact Kb
 have hall : q.aeB.all (iA f v) = true := jr (by rw [show q.aeB.length = k by omega]; exact ha)
 refine bq ?_
 refine sT [1, 2, 3, 10, 11, 12] [3] ?_
 exact Jt
def TR {x : aeA}  (hb : eZ x ≤ 68719476736) : aN Tryz.prog 190 [(true, [val (vI x.Id), val (vI x.aeE), sl .v (x.aeB.map bH), sl .v (x.Out.map am)])] (aJ [(true, [val (vI x.Id), val (vI x.aeE), sl aD (x.aeB.map bH), sl ab (x.Out.map am)])]) := by
 refine sF Tryz.func190 fun h0 w0 Fz0 => ?_
 refine sn 0 2 fun hl0_2 => ?_
 refine sn 0 3 fun hl0_3 => ?_
 have hbu := hb
 simp only [eZ, dE, bf, tO] at hbu
 refine nk ?_
 refine rX ?_ (x := (cr (by decide) kJ oK))
 refine sT [1, 2] [1, 2] ?_
 refine rA ?_ (x := bP (qs := []) (by decide) gH pO (by decide) rfl rfl rfl rfl rfl (by exact nl rfl) (by exact tI) rfl)
 refine vn ?_
 refine rA ?_ (x := it (by decide) gH pO rfl rfl (by decide) (by first | (intro cs hcs; obtain ⟨x, _, rfl⟩ := List.mem_map.1 hcs; exact rfl) | simp) (by first | (intro cs hcs; obtain ⟨x, _, rfl⟩ := List.mem_map.1 hcs; exact (aj.cons (bor_val _) (aj.cons (bor_val _) (aj.cons (bor_val _) aj.nil)))) | simp) (by simp only [aw, aM, List.length_cons, List.length_nil]; omega) (by simp only [aw, aM, List.length_cons, List.length_nil]; omega))
 refine Ph ?_
 refine be ?_
 refine PU ?_
 refine rA ?_ (x := lF pJ)
 refine rA ?_ (x := lD [sl .v _] bF)
 refine rA ?_ (x := cL [(false, [sl _ _])] [(false, [sl .v _])] oD (hs := by exact oV (by omega)))
 refine rA ?_ (x := lF pJ)
 refine vl ?_
 refine PU ?_
 refine MR ?_
 exact JA
end Go.Proofs.YtmekkgdboplbjaaGreat
