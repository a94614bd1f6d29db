/- What functions of the program compute. No condition. -/
import Derived.Test.YtmekkgdboplbjaaGreatDoorCX0
import Derived.Test.YtmekkgdboplbjaaGreatDoorCZ0
set_option linter.all false
namespace Go.Proofs.YtmekkgdboplbjaaGreatDoor
open Go Go.RowKit M PV
set_option maxRecDepth 10000
attribute [local irreducible] PV.Lcl PV.LclR RV.Lcl
def XI {l : List Int} {x : Int}  (hb : l.length ≤ 68719476736) : aN Tryz.prog 315 [(false, [sl .v (l.map an)]), (false, [val (vI x)])] (aF [(false, [sl ae ((mb l x).map an)])]) := by
 refine sF Tryz.func315 fun h0 w0 Fz0 => ?_
 refine sj 0 fun hl0 => ?_
 refine pO ?_
 refine sS [0, 1, 4] [] ?_
 refine nE ?_
 refine wB ?_
 refine sL [0, 1, 4] [] (fun k : Nat => k ≤ l.length) (fun k : Nat => [(5, RV.slc ae ((mb (l.take k) x).map an)), (6, RV.int (k : Int))]) (fun k : Nat => []) (fun k : Nat => l.length - k) 0 (by omega) (by exact aI (by exact rfl) (aI (by exact rfl) tI)) (by exact tI) ?_
 rintro k hk
 refine kw ?_
 refine sc (fun hba => ?_) (fun hba => ?_)
 have hlt : k < l.length := by omega
 have hwl := LX (l.take k) x
 rw [bg] at hwl
 refine wq ?_
 refine qb ?_
 refine rM ?_
 refine rA ?_ (x := gJ)
 refine sc (fun hbb => ?_) (fun hbb => ?_)
 have hne : ¬ l[k] = x := hbb
 refine sG [0, 1, 4, 5, 6] [] ?_
 refine rA ?_ (x := tM)
 refine qb ?_
 refine nB ?_
 exact GI
 have hne : l[k] = x := by first | exact hbb | (simp_all; done) | omega
 refine bc ?_
 exact GI
 have hend : k = l.length := by omega
 refine wn ?_
 exact ED
def Cz {e : ay}  (hb : bB e ≤ 68719476736) : fa Tryz.prog 273 46 [sl bQ (e.Store.ZE.map (aO be ae)), val (vI e.Store.Now), val (vI e.ZJ), sl ae (e.Order.map an), sl dr (e.ZF.map (bq aP ae ae aR ae)), sl cQ (e.Done.map (bN aP ae aR ae)), sl cH (e.ZR.map (bF ae ae ae)), val (vI e.Steps)] [sl bQ ((fA e).Store.ZE.map (aO be ae)), val (vI (fA e).Store.Now), val (vI e.ZJ), sl ae (e.Order.map an), sl dr (e.ZF.map (bq aP ae ae aR ae)), sl cQ (e.Done.map (bN aP ae aR ae)), sl cH (e.ZR.map (bF ae ae ae)), val (vI e.Steps)] [] (aF []) := by
 refine fO (rs := []) Tryz.func273 rfl (nl rfl) (nl rfl) ?_
 intro g_ h0 w0 Fz0
 have hbu := hb
 simp only [bB, ix] at hbu
 refine sR ?_
 refine nE ?_
 refine sT [0, 2, 5000] [0] ?_
 refine de ?_
 refine sP [0, 2, 3, 5000] [0] ?_
 refine sL [0, 5000] [0] (fun k : Nat => k ≤ e.ZF.length) (fun k : Nat => [(2, RV.slc ae ((jU (e.ZF.take k)).map an)), (3, RV.int (k : Int))]) (fun k : Nat => []) (fun k : Nat => e.ZF.length - k) 0 (by omega) (by exact aI (by exact rfl) (aI (by exact rfl) tI)) (by exact tI) ?_
 rintro k hk
 refine cI ?_
 refine la ?_
 refine oL ?_
 refine sc (fun hba => ?_) (fun hba => ?_)
 have hlt : k < e.ZF.length := by omega
 have htl : (jU (e.ZF.take k)).length = k := by unfold jU; rw [am, bg]; omega
 have hts : jU (e.ZF.take (k + 1)) = jU (e.ZF.take k) ++ [e.ZF[k].Time] := by unfold jU; rw [kC hlt]
 refine bw ?_
 refine sH [0, 2, 3, 5000] [0] ?_
 refine rA ?_ (x := tM)
 refine la ?_
 refine qc ?_
 refine rA ?_ (x := cB (by decide) qv (by exact nl rfl))
 refine rA ?_ (x := lE [val _] aw)
 refine nB ?_
 refine sG [0, 2, 3, 5000] [0] ?_
 refine ca ?_
 refine nx (k + 1) (by omega) (e := (by exact aI (by exact bI (by rw [hts, bb]; rfl)) (aI (by exact rfl) tI)))
 have hend : k = e.ZF.length := by omega
 have hte : jU (e.ZF.take k) = jU e.ZF := by rw [hend, bY]
 have htl : (jU e.ZF).length = e.ZF.length := by unfold jU; rw [am]
 rw [hte]
 refine bE ?_
 refine sT [0, 2, 3, 5000] [0] ?_
 refine la ?_
 refine rA ?_ (x := lF fB)
 refine rA ?_ (x := lD [sl .v _, val _] cF)
 refine rA ?_ (x := vM false [sl .v _])
 refine rA ?_ (x := cL [(true, [sl _ _, val _]), (false, [sl _ _])] [(true, [sl .v _, val _]), (false, [sl .v _])] Tc (hs := by exact (Vg (s := e.Store) (keep := jU e.ZF) (by omega) (by omega))))
 refine rA ?_ (x := tM)
 refine vz ?_
 refine mx ?_
 refine rS ?_
 refine sO [(0, _), (2, _), (3, _), (4, _), (5, _), (5000, _)] [(0, _), (4, (41, [sl _ _, val _]))] ?_
 refine lL ?_
 refine rA ?_ (x := dH (ms := [sl _ _, val _]) (qs := [sl .v _, val _]) (by decide) cF (fun h => nomatch h) (by exact nl rfl) (by exact rfl) (by exact (aA (aq ao.nil))) (by exact (ab.cons (bor_sl _) (ab.cons (bor_val _) ab.nil))))
 refine rA ?_ (x := hP (by decide))
 refine Jf ?_
 exact ⟨(by exact rfl), rfl, tI⟩
end Go.Proofs.YtmekkgdboplbjaaGreatDoor
