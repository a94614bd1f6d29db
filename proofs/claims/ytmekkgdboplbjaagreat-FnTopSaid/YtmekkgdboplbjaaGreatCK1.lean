/- What functions of the program compute. No condition. -/
import Derived.Test.YtmekkgdboplbjaaGreatCJ1
set_option linter.all false
namespace Go.Proofs.YtmekkgdboplbjaaGreat
open Go Go.RowKit M PV
set_option maxRecDepth 10000
attribute [local irreducible] PV.Lcl PV.LclR RV.Lcl
attribute [local irreducible] au jc
def aea : dY Tryz.prog 178 = some [(0, 1), (1, 1), (2, 1)] := by kernel_rfl
def aeb : dY Tryz.prog 52 = some [(0, 1), (1, 1), (2, 1), (3, 1)] := by kernel_rfl
def aec {o : Fl} {c : ba} (hbo : ∀ es, (sl o es).Bor) {id : Int}  : iO Tryz.prog 234 192 (ez o c) (ez o (jB c id).2) [(false, [val (vI id)])] (aJ [(true, [val (vI (jB c id).1.Id), val (vI (jB c id).1.aeE), sl aD ((jB c id).1.aeB.map bH), sl ab ((jB c id).1.Out.map am)])]) := by
 refine kC (rs := [(true, [val (vI (jB c id).1.Id), val (vI (jB c id).1.aeE), sl aD ((jB c id).1.aeB.map bH), sl ab ((jB c id).1.Out.map am)])]) Tryz.func234 rfl (nl rfl) (nl rfl) ?_
 intro g_ h0 w0 Fz0
 have hp3 : 0 < (bR (au c 4).2 [3, 6, 100]).1 ∧ (bR (au c 4).2 [3, 6, 100]).1 ≤ 100 := by have h_ := AD (au c 4).2 (l := [3, 6, 100]) (by decide); simp at h_; show 0 < (bR _ _).1 ∧ (bR _ _).1 ≤ 100; omega
 have hb1 := dS (nF c).c 3
 have hb2 := eA (nF c).c (n := 3) (by decide)
 refine sR ?_
 refine rX ?_ (x := (cr (by decide) kJ oK))
 refine be ?_
 refine sO [(0, _), (1, _), (4, _), (5000, _)] [(0, (192, [sl o _, val _, val _])), (4, (52, [val _, val _, sl _ _, sl _ _]))] ?_
 refine lP ?_
 refine iT ?_
 refine rA ?_ (x := dp (qs := [(false, [val _]), (false, [val _])]) (cs := [val _, val _, sl _ _, sl _ _]) (by decide) kJ oK aeb (by exact rfl) (by exact (aI (by exact tI) (aI (by exact tI) tI))) rfl (by exact rfl))
 refine rX ?_ (x := (cr (by decide) kJ oK))
 refine yx ?_
 refine sO [(0, _), (1, _), (4, _), (5, _), (5000, _)] [(0, _), (4, _), (5, (52, [val _, val _, sl _ _, sl _ _]))] ?_
 refine qF ?_
 refine MB ?_
 refine hZ ?_
 refine sS [0, 1, 4, 5, 6, 5000] [0, 4, 5] ?_
 refine ca ?_
 refine sP [0, 1, 4, 5, 6, 7, 5000] [0, 4, 5] ?_
 refine sL [0, 1, 4, 5, 6, 5000] [4] (fun k : Nat => k ≤ 3) (fun k : Nat => [(7, RV.int (k : Int))]) (fun k : Nat => [(0, (192, ez o (eL (bR (au c 4).2 [3, 6, 100]).1 ⟨[], (bR (au c 4).2 [3, 6, 100]).2⟩ k).c)), (5, (52, [val (vI id), val (vI (au c 4).1), sl aD ((eL (bR (au c 4).2 [3, 6, 100]).1 ⟨[], (bR (au c 4).2 [3, 6, 100]).2⟩ k).l.map bH), sl ab (([] : List Int).map am)]))]) (fun k : Nat => 3 - k) 0 (by omega) (by exact aI (by exact rfl) tI) (by exact aI (by exact rfl) (aI (by exact rfl) tI)) ?_
 rintro k hk
 have hcl := AE (w := (bR (au c 4).2 [3, 6, 100]).1) (s := ⟨[], (bR (au c 4).2 [3, 6, 100]).2⟩) k
 have hb3 := dS (au (eL (bR (au c 4).2 [3, 6, 100]).1 ⟨[], (bR (au c 4).2 [3, 6, 100]).2⟩ k).c 2).2 (bR (au c 4).2 [3, 6, 100]).1
 have hb4 := eA (au (eL (bR (au c 4).2 [3, 6, 100]).1 ⟨[], (bR (au c 4).2 [3, 6, 100]).2⟩ k).c 2).2 (n := (bR (au c 4).2 [3, 6, 100]).1) (by omega)
 have hb5 := dS (au (au (eL (bR (au c 4).2 [3, 6, 100]).1 ⟨[], (bR (au c 4).2 [3, 6, 100]).2⟩ k).c 2).2 (bR (au c 4).2 [3, 6, 100]).1).2 (bR (au c 4).2 [3, 6, 100]).1
 have hb6 := eA (au (au (eL (bR (au c 4).2 [3, 6, 100]).1 ⟨[], (bR (au c 4).2 [3, 6, 100]).2⟩ k).c 2).2 (bR (au c 4).2 [3, 6, 100]).1).2 (n := (bR (au c 4).2 [3, 6, 100]).1) (by omega)
 simp only [List.length_nil, Nat.zero_add] at hcl
 refine qR ?_
 refine sc ?_ ?_ <;> intro hba
 have hlt : k < 3 := by omega
 refine dh ?_
 refine NS ?_
 refine MT ?_
 refine sc ?_ ?_ <;> intro hbb
 have h1_ : (au (eL (bR (au c 4).2 [3, 6, 100]).1 ⟨[], (bR (au c 4).2 [3, 6, 100]).2⟩ k).c 2).1 = 0 := by simpa using hbb
 refine sS [0, 1, 4, 5, 6, 7, 5000] [0, 4, 5] ?_
 refine zi ?_
 refine rS ?_
 refine sS [0, 1, 4, 5, 6, 7, 8, 5000] [0, 4, 5] ?_
 refine rM ?_
 refine zi ?_
 refine rA ?_ (x := jm)
 refine rA ?_ (x := Hm (by decide) (bM rfl) (by exact tI))
 refine hZ ?_
 refine sS [0, 1, 4, 5, 6, 7, 8, 9, 5000] [0, 4, 5] ?_
 refine MT ?_
 refine sc ?_ ?_ <;> intro hbc
 have hcn := aaP (w := (bR (au c 4).2 [3, 6, 100]).1) (f := (k : Int)) (s := (eL (bR (au c 4).2 [3, 6, 100]).1 ⟨[], (bR (au c 4).2 [3, 6, 100]).2⟩ k)) h1_ (by simpa using hbc)
 refine sG [0, 1, 4, 5, 6, 7, 8, 9, 5000] [0, 4, 5] ?_
 refine rM ?_
 refine rS ?_
 exact LZ
 have hcn := aaQ (w := (bR (au c 4).2 [3, 6, 100]).1) (f := (k : Int)) (s := (eL (bR (au c 4).2 [3, 6, 100]).1 ⟨[], (bR (au c 4).2 [3, 6, 100]).2⟩ k)) h1_ (by simpa using hbc)
 refine bb ?_
 exact LZ
 have hcn := aaR (w := (bR (au c 4).2 [3, 6, 100]).1) (f := (k : Int)) (s := (eL (bR (au c 4).2 [3, 6, 100]).1 ⟨[], (bR (au c 4).2 [3, 6, 100]).2⟩ k)) (by simpa using hbb)
 refine bb ?_
 refine sG [0, 1, 4, 5, 6, 7, 5000] [0, 4, 5] ?_
 exact LY
 have hend : k = 3 := by omega
 have hq : nF c = (eL (bR (au c 4).2 [3, 6, 100]).1 ⟨[], (bR (au c 4).2 [3, 6, 100]).2⟩ k) := by rw [hend]; rfl
 have hqn := FX c
 have hqb : au (eL (bR (au c 4).2 [3, 6, 100]).1 ⟨[], (bR (au c 4).2 [3, 6, 100]).2⟩ k).c 3 = iF c := by rw [← hq]; rfl
 have hqe : (au (eL (bR (au c 4).2 [3, 6, 100]).1 ⟨[], (bR (au c 4).2 [3, 6, 100]).2⟩ k).c 3).1 = (iF c).1 := by rw [hqb]
 refine bq ?_
 refine dJ ?_
 refine NS ?_
 refine iT ?_
 refine lh ?_
 refine mp ?_
 refine sP [0, 1, 4, 5, 6, 7, 10, 5000] [0, 4, 5] ?_
 refine sL [0, 1, 4, 5, 6, 7, 5000] [4] (fun k2 : Nat => (k2 : Int) ≤ 1 + (iF c).1) (fun k2 : Nat => [(10, RV.int (1 + (iF c).1 - (k2 : Int)))]) (fun k2 : Nat => [(0, (192, ez o (iE 3 (iF c).2 k2).2)), (5, (52, [val (vI id), val (vI (au c 4).1), sl aD ((nF c).l.map bH), sl ab ((iE 3 (iF c).2 k2).1.map am)]))]) (fun k2 : Nat => (1 + (iF c).1 - (k2 : Int)).toNat) 0 (by omega) (by exact aI (by exact bk (by omega)) tI) (by exact aI (by show _ = some (192, ez o (iF c).2); rw [← hqb]; rfl) (aI (by rw [hq]; exact rfl) tI)) ?_
 rintro k2 hk2
 have hvl : ((iE 3 (iF c).2 k2).1).length = k2 := ug
 refine zv ?_
 refine sc ?_ ?_ <;> intro hbb
 have hlt2 : (k2 : Int) < 1 + (iF c).1 := by omega
 refine dh ?_
 refine NP ?_
 refine iT ?_
 refine rS ?_
 refine sG [0, 1, 4, 5, 6, 7, 10, 11, 5000] [0, 4, 5] ?_
 refine rA ?_ (x := lF pJ)
 refine qW ?_
 refine rA ?_ (x := lF pJ)
 refine rA ?_ (x := bh (ag := false) (vs := [sl _ _]) bF (by exact tI) (by exact rfl) (by exact nl rfl))
 refine sO [(0, _), (1, _), (4, _), (5, _), (6, _), (7, _), (10, _), (11, _), (5000, _)] [(0, _), (4, _), (5, (52, [val _, val _, sl _ _, sl _ _]))] ?_
 refine lP ?_
 refine rA ?_ (x := fI)
 refine rS ?_
 refine nx (k2 + 1) (by omega) (e := (by exact aI (by exact bk (by omega)) tI)) (f := (by exact aI (by exact rfl) (aI (by simp only [iE, bj]; exact rfl) tI)))
 have hend2 : (1 + (iF c).1).toNat = k2 := by omega
 refine er ?_
 refine NP ?_
 refine MR ?_
 refine cT ?_
 exact ⟨(by unfold jB ui; rw [hend2]; exact rfl), rfl, (bw 4 (bw _ (aI (by exact rfl) (aI (by refine dZ ?_; unfold jB ui; rw [hend2]; exact rfl) (aI eQ (aI (fun h => nomatch h) tI))))))⟩
end Go.Proofs.YtmekkgdboplbjaaGreat
