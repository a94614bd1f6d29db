/- What functions of the program compute. No condition. -/
import Derived.Test.YtmekkgdboplbjaaGreatCS0
set_option linter.all false
namespace Go.Proofs.YtmekkgdboplbjaaGreat
open Go Go.RowKit M PV
set_option maxRecDepth 10000
attribute [local irreducible] PV.Lcl PV.LclR RV.Lcl
def ZU {q : acv} {f : Int} {v : Int}  : aB Tryz.prog 230 [(true, [val (vI q.Id), val (vI q.acz), sl .v (q.acw.map bj), sl .v (q.Out.map ak)]), (false, [val (vI f)]), (false, [val (vI v)])] (aA [(false, [val (.bool (iI q f v))])]) := by
 refine sF Tryz.func230 fun h0 w0 Fz0 => ?_
 refine sn 0 2 fun hl0_2 => ?_
 refine sn 0 3 fun hl0_3 => ?_
 refine oe ?_
 refine fh ?_
 refine sT [1, 2, 3, 6] [3] ?_
 refine qJ ?_
 refine rA ?_ (x := lN eC)
 refine dZ ?_
 refine sP [1, 2, 3, 6, 10, 11, 12] [3] ?_
 refine sL [1, 2, 3, 10, 11] [3] (fun k : Nat => k ≤ q.acw.length ∧ (q.acw.take k).all (iv f v) = true) (fun k : Nat => [(12, RV.int (k : Int))]) (fun k : Nat => []) (fun k : Nat => q.acw.length - k) 0 (by exact ⟨by omega, by simp⟩) (by exact aI (by exact rfl) tI) (by exact tI) ?_
 rintro k ⟨hk, ha⟩
 refine cF ?_
 refine sc (fun hba => ?_) (fun hba => ?_)
 have hlt : k < q.acw.length := by omega
 refine bB ?_
 refine sT [1, 2, 3, 10, 11, 12] [3] ?_
 refine KT ?_
 refine rX ?_ (x := (bY (by decide) oO uY))
 refine LO ?_
 refine sO [(1, _), (2, _), (3, _), (8, _), (10, _), (11, _), (12, _)] [(3, _), (8, (178, [val _, val _, val _]))] ?_
 refine bf ?_
 refine BP ?_
 refine rM ?_
 refine rA ?_ (x := eG)
 refine rM ?_
 refine cx 20 (fun ga sga => ?_) (fun ga sga => ?_)
 refine rB ga ?_ (x := sM)
 refine BG ?_
 refine rB ga ?_ (x := lF mi)
 refine Cj ?_
 refine rA ?_ (x := aT ga)
 refine sc (fun hbb => ?_) (fun hbb => ?_)
 have hno : iv f v q.acw[k] = false := by simp_all [iv]
 refine sS [1, 2, 3, 8, 10, 11, 12] [3, 8] ?_
 exact GX
 exact HA
 refine pL ?_
 exact HA
 have hall : q.acw.all (iv f v) = true := jY (by rw [show q.acw.length = k by omega]; exact ha)
 refine bG ?_
 refine sT [1, 2, 3, 10, 11, 12] [3] ?_
 exact GZ
def Pn {x : acv}  (hb : cr x ≤ 68719476736) : aB Tryz.prog 190 [(true, [val (vI x.Id), val (vI x.acz), sl .v (x.acw.map bj), sl .v (x.Out.map ak)])] (aA [(true, [val (vI x.Id), val (vI x.acz), sl aw (x.acw.map bj), sl aa (x.Out.map ak)])]) := by
 refine sF Tryz.func190 fun h0 w0 Fz0 => ?_
 refine sn 0 2 fun hl0_2 => ?_
 refine sn 0 3 fun hl0_3 => ?_
 have hbu := hb
 simp only [cr, ek, bd, iX] at hbu
 refine BN ?_
 refine sT [1, 2] [1, 2] ?_
 refine rA ?_ (x := cj (qs := []) (by decide) eC oO (by decide) rfl rfl rfl rfl rfl (by exact nl rfl) (by exact tI) rfl)
 refine qJ ?_
 refine rA ?_ (x := iN (by decide) eC oO rfl rfl (by decide) (by first | (intro cs hcs; obtain ⟨x, _, rfl⟩ := List.mem_map.1 hcs; exact rfl) | simp) (by first | (intro cs hcs; obtain ⟨x, _, rfl⟩ := List.mem_map.1 hcs; exact (an.cons (bor_val _) (an.cons (bor_val _) (an.cons (bor_val _) an.nil)))) | simp) (by simp only [aq, aV, List.length_cons, List.length_nil]; omega) (by simp only [aq, aV, List.length_cons, List.length_nil]; omega))
 refine LJ ?_
 refine aP ?_
 refine sO [(1, _), (2, _)] [(1, (52, [val _, val _, sl _ _, sl _ _])), (2, _)] ?_
 refine bf ?_
 refine rA ?_ (x := lF ki)
 refine rA ?_ (x := lD [sl .v _] bv)
 refine rA ?_ (x := cL [(false, [sl _ _])] [(false, [sl .v _])] oN (hs := by exact oW (by omega)))
 refine rA ?_ (x := lF ki)
 refine kF ?_
 refine sO [(1, _), (2, _)] [(1, (52, [val _, val _, sl _ _, sl _ _])), (2, _)] ?_
 exact Gb
end Go.Proofs.YtmekkgdboplbjaaGreat
