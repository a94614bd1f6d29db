/- What functions of the program compute. No condition. -/
import Derived.Test.YtmekkgdboplbjaaGreatCJ1
set_option linter.unusedVariables false
set_option linter.unusedSimpArgs false
namespace Go.Proofs.YtmekkgdboplbjaaGreat
open Go Go.RowKit M PV
set_option maxRecDepth 10000
attribute [local irreducible] PV.Lcl PV.LclR RV.Lcl
attribute [local irreducible] aj fM
theorem Ti : cU Tryz.prog 178 = some [(0, 1), (1, 1), (2, 1)] := by kernel_rfl
theorem Tj : cU Tryz.prog 52 = some [(0, 1), (1, 1), (2, 1), (3, 1)] := by kernel_rfl
theorem Tk {o : Fl} {c : aC} (hbo : ∀ es, (sl o es).Bor) {id : Int}  : fE Tryz.prog 234 192 (cO o c) (cO o (iB c id).2) [(false, [val (vI id)])] (av [(true, [val (vI (iB c id).1.Id), val (vI (iB c id).1.Tenant), sl (.own 178 3) ((iB c id).1.Conds.map bR), sl (.own 3 1) ((iB c id).1.Out.map ai)])]) := by
 refine gG (rs := [(true, [val (vI (iB c id).1.Id), val (vI (iB c id).1.Tenant), sl (.own 178 3) ((iB c id).1.Conds.map bR), sl (.own 3 1) ((iB c id).1.Out.map ai)])]) Tryz.func234 rfl (nl rfl) (nl rfl) ?_
 intro g_ h0 w0 Fz0
 have hp3 : 0 < (aU (aj c 4).2 [3, 6, 100]).1 ∧ (aU (aj c 4).2 [3, 6, 100]).1 ≤ 100 := by have h_ := vw (aj c 4).2 (l := [3, 6, 100]) (by decide); simp at h_; show 0 < (aU _ _).1 ∧ (aU _ _).1 ≤ 100; omega
 have hb1 := di (lS c).c 3
 have hb2 := dw (lS c).c (n := 3) (by decide)
 refine sR ?_
 refine rX ?_ (x := (bB (by decide) gx nI))
 refine aJ ?_
 refine sO [(0, _), (1, _), (4, _), (5000, _)] [(0, (192, [sl o _, val _, val _])), (4, (52, [val _, val _, sl _ _, sl _ _]))] ?_
 refine iL ?_
 refine ic ?_
 refine rA ?_ (x := cv (qs := [(false, [val _]), (false, [val _])]) (cs := [val _, val _, sl _ _, sl _ _]) (by decide) gx nI Tj (by exact rfl) (by exact (aI (by exact ⟨⟩) (aI (by exact ⟨⟩) tI))) rfl (by exact rfl))
 refine qB ?_
 refine aJ ?_
 refine sO [(0, _), (1, _), (4, _), (5, _), (5000, _)] [(0, _), (4, _), (5, (52, [val _, val _, sl _ _, sl _ _]))] ?_
 refine jE ?_
 refine Fg ?_
 refine ig ?_
 refine sS [0, 1, 4, 5, 6, 5000] [0, 4, 5] ?_
 refine bw ?_
 refine sP [0, 1, 4, 5, 6, 7, 5000] [0, 4, 5] ?_
 refine sL [0, 1, 4, 5, 6, 5000] [4] (fun k : Nat => k ≤ 3) (fun k : Nat => [(7, RV.int (k : Int))]) (fun k : Nat => [(0, (192, cO o (fz (aU (aj c 4).2 [3, 6, 100]).1 ⟨[], (aU (aj c 4).2 [3, 6, 100]).2⟩ k).c)), (5, (52, [val (vI id), val (vI (aj c 4).1), sl (.own 178 3) ((fz (aU (aj c 4).2 [3, 6, 100]).1 ⟨[], (aU (aj c 4).2 [3, 6, 100]).2⟩ k).l.map bR), sl (.own 3 1) (([] : List Int).map ai)]))]) (fun k : Nat => 3 - k) 0 (by omega) (by exact aI (by exact rfl) (tI)) (by exact aI (by exact rfl) (aI (by exact rfl) (tI))) ?_
 rintro k hk
 have hcl := z7 (w := (aU (aj c 4).2 [3, 6, 100]).1) (s := ⟨[], (aU (aj c 4).2 [3, 6, 100]).2⟩) k
 have hb3 := di (aj (fz (aU (aj c 4).2 [3, 6, 100]).1 ⟨[], (aU (aj c 4).2 [3, 6, 100]).2⟩ k).c 2).2 (aU (aj c 4).2 [3, 6, 100]).1
 have hb4 := dw (aj (fz (aU (aj c 4).2 [3, 6, 100]).1 ⟨[], (aU (aj c 4).2 [3, 6, 100]).2⟩ k).c 2).2 (n := (aU (aj c 4).2 [3, 6, 100]).1) (by omega)
 have hb5 := di (aj (aj (fz (aU (aj c 4).2 [3, 6, 100]).1 ⟨[], (aU (aj c 4).2 [3, 6, 100]).2⟩ k).c 2).2 (aU (aj c 4).2 [3, 6, 100]).1).2 (aU (aj c 4).2 [3, 6, 100]).1
 have hb6 := dw (aj (aj (fz (aU (aj c 4).2 [3, 6, 100]).1 ⟨[], (aU (aj c 4).2 [3, 6, 100]).2⟩ k).c 2).2 (aU (aj c 4).2 [3, 6, 100]).1).2 (n := (aU (aj c 4).2 [3, 6, 100]).1) (by omega)
 simp only [List.length_nil, Nat.zero_add] at hcl
 refine nh ?_
 refine sc (fun hba => ?_) (fun hba => ?_)
 have hlt : k < 3 := by omega
 refine cE ?_
 refine GI ?_
 refine FF ?_
 refine sc (fun hbb => ?_) (fun hbb => ?_)
 have h1_ : (aj (fz (aU (aj c 4).2 [3, 6, 100]).1 ⟨[], (aU (aj c 4).2 [3, 6, 100]).2⟩ k).c 2).1 = 0 := by simpa using hbb
 refine sS [0, 1, 4, 5, 6, 7, 5000] [0, 4, 5] ?_
 refine rA ?_ (x := cM Cp.ptr)
 refine qu ?_
 refine rS ?_
 refine sS [0, 1, 4, 5, 6, 7, 8, 5000] [0, 4, 5] ?_
 refine rM ?_
 refine rA ?_ (x := cM Cp.ptr)
 refine qu ?_
 refine rA ?_ (x := gI)
 refine rA ?_ (x := vW (by decide) (aY rfl) (by exact ⟨⟩))
 refine ig ?_
 refine sS [0, 1, 4, 5, 6, 7, 8, 9, 5000] [0, 4, 5] ?_
 refine FF ?_
 refine sc (fun hbc => ?_) (fun hbc => ?_)
 have hcn := R6 (w := (aU (aj c 4).2 [3, 6, 100]).1) (f := (k : Int)) (s := (fz (aU (aj c 4).2 [3, 6, 100]).1 ⟨[], (aU (aj c 4).2 [3, 6, 100]).2⟩ k)) h1_ (by simpa using hbc)
 refine sG [0, 1, 4, 5, 6, 7, 8, 9, 5000] [0, 4, 5] ?_
 refine rM ?_
 refine rS ?_
 exact EL
 have hcn := R7 (w := (aU (aj c 4).2 [3, 6, 100]).1) (f := (k : Int)) (s := (fz (aU (aj c 4).2 [3, 6, 100]).1 ⟨[], (aU (aj c 4).2 [3, 6, 100]).2⟩ k)) h1_ (by simpa using hbc)
 refine aN ?_
 exact EL
 have hcn := R8 (w := (aU (aj c 4).2 [3, 6, 100]).1) (f := (k : Int)) (s := (fz (aU (aj c 4).2 [3, 6, 100]).1 ⟨[], (aU (aj c 4).2 [3, 6, 100]).2⟩ k)) (by simpa using hbb)
 refine aN ?_
 refine sG [0, 1, 4, 5, 6, 7, 5000] [0, 4, 5] ?_
 exact EK
 have hend : k = 3 := by omega
 have hq : lS c = (fz (aU (aj c 4).2 [3, 6, 100]).1 ⟨[], (aU (aj c 4).2 [3, 6, 100]).2⟩ k) := by rw [hend]; rfl
 have hqn := La c
 have hqb : aj (fz (aU (aj c 4).2 [3, 6, 100]).1 ⟨[], (aU (aj c 4).2 [3, 6, 100]).2⟩ k).c 3 = gm c := by rw [← hq]; rfl
 have hqe : (aj (fz (aU (aj c 4).2 [3, 6, 100]).1 ⟨[], (aU (aj c 4).2 [3, 6, 100]).2⟩ k).c 3).1 = (gm c).1 := by rw [hqb]
 refine aX ?_
 refine dH ?_
 refine GI ?_
 refine ic ?_
 refine mW ?_
 refine iE ?_
 refine sP [0, 1, 4, 5, 6, 7, 10, 5000] [0, 4, 5] ?_
 refine sL [0, 1, 4, 5, 6, 7, 5000] [4] (fun k2 : Nat => (k2 : Int) ≤ 1 + (gm c).1) (fun k2 : Nat => [(10, RV.int (1 + (gm c).1 - (k2 : Int)))]) (fun k2 : Nat => [(0, (192, cO o (fO 3 (gm c).2 k2).2)), (5, (52, [val (vI id), val (vI (aj c 4).1), sl (.own 178 3) ((lS c).l.map bR), sl (.own 3 1) ((fO 3 (gm c).2 k2).1.map ai)]))]) (fun k2 : Nat => (1 + (gm c).1 - (k2 : Int)).toNat) 0 (by omega) (by exact aI (by exact bf (by omega)) (tI)) (by exact aI (by show _ = some (192, cO o (gm c).2); rw [← hqb]; rfl) (aI (by rw [hq]; exact rfl) (tI))) ?_
 rintro k2 hk2
 have hvl : ((fO 3 (gm c).2 k2).1).length = k2 := r6
 refine uw ?_
 refine sc (fun hbb => ?_) (fun hbb => ?_)
 have hlt2 : (k2 : Int) < 1 + (gm c).1 := by omega
 refine cE ?_
 refine GF ?_
 refine ic ?_
 refine rS ?_
 refine sG [0, 1, 4, 5, 6, 7, 10, 11, 5000] [0, 4, 5] ?_
 refine rA ?_ (x := lF kD)
 refine pc ?_
 refine rA ?_ (x := lF kD)
 refine rA ?_ (x := aQ (ag := false) (vs := [sl _ _]) aZ (by exact ⟨⟩) (by exact rfl) (by exact nl rfl))
 refine sO [(0, _), (1, _), (4, _), (5, _), (6, _), (7, _), (10, _), (11, _), (5000, _)] [(0, _), (4, _), (5, (52, [val _, val _, sl _ _, sl _ _]))] ?_
 refine iL ?_
 refine rA ?_ (x := er)
 refine rS ?_
 refine nx (k2 + 1) (by omega) (e := (by exact aI (by exact bf (by omega)) (tI))) (f := (by exact aI (by exact rfl) (aI (by simp only [fO, List.map_append]; exact rfl) (tI))))
 have hend2 : (1 + (gm c).1).toNat = k2 := by omega
 refine et ?_
 refine GF ?_
 refine FD ?_
 refine bY ?_
 exact ⟨(by unfold iB r7; rw [hend2]; exact rfl), rfl, (Exists.intro 4 (Exists.intro _ (aI (by exact rfl) (aI (by refine cW ?_; unfold iB r7; rw [hend2]; exact rfl) (aI dp (aI (fun h => nomatch h) tI))))))⟩
end Go.Proofs.YtmekkgdboplbjaaGreat
