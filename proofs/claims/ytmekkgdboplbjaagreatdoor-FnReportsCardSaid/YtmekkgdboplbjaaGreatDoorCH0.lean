/- What functions of the program compute. No condition. -/
import Derived.Test.YtmekkgdboplbjaaGreatDoorCG0
set_option linter.all false
namespace Go.Proofs.YtmekkgdboplbjaaGreatDoor
open Go Go.RowKit M PV
set_option maxRecDepth 10000
attribute [local irreducible] PV.Lcl PV.LclR RV.Lcl
attribute [local irreducible] ak gn
def Ua : dL Tryz.prog 25 = some [(0, 1), (1, 1), (2, 1), (3, 1)] := by kernel_rfl
def Ub : dL Tryz.prog 65 = some [(0, 1), (1, 1), (2, 1)] := by kernel_rfl
def Lv {o : Fl} {c : au} (hbo : ∀ es, (sl o es).Bor) {id : Int}  : fa Tryz.prog 166 176 (ce o c) (ce o (gS c id).2) [(false, [val (vI id)])] (aF [(true, [val (vI (gS c id).1.Id), val (vI (gS c id).1.ZK), sl aP ((gS c id).1.ZH.map dj), sl ae ((gS c id).1.Out.map an)])]) := by
 refine fO (rs := [(true, [val (vI (gS c id).1.Id), val (vI (gS c id).1.ZK), sl aP ((gS c id).1.ZH.map dj), sl ae ((gS c id).1.Out.map an)])]) Tryz.func166 rfl (nl rfl) (nl rfl) ?_
 intro g_ h0 w0 Fz0
 have hp3 : 0 < (aX (ak c 4).2 [3, 6, 100]).1 ∧ (aX (ak c 4).2 [3, 6, 100]).1 ≤ 100 := by have h_ := AQ (ak c 4).2 (l := [3, 6, 100]) (by decide); simp at h_; show 0 < (aX _ _).1 ∧ (aX _ _).1 ≤ 100; omega
 have hb1 := dh (nL c).c 3
 have hb2 := di (nL c).c (n := 3) (by decide)
 refine sR ?_
 refine rX ?_ (x := (db (by decide) lS rC))
 refine ba ?_
 refine sO [(0, _), (1, _), (4, _), (5000, _)] [(0, (176, [sl o _, val _, val _])), (4, (25, [val _, val _, sl _ _, sl _ _]))] ?_
 refine ku ?_
 refine jG ?_
 refine rA ?_ (x := dM (qs := [(false, [val _]), (false, [val _])]) (cs := [val _, val _, sl _ _, sl _ _]) (by decide) lS rC Ua (by exact rfl) (by exact (aI (by exact tI) (aI (by exact tI) tI))) rfl (by exact rfl))
 refine vJ ?_
 refine ba ?_
 refine sO [(0, _), (1, _), (4, _), (5, _), (5000, _)] [(0, _), (4, _), (5, (25, [val _, val _, sl _ _, sl _ _]))] ?_
 refine bi ?_
 refine HC ?_
 refine gA ?_
 refine sS [0, 1, 4, 5, 6, 5000] [0, 4, 5] ?_
 refine de ?_
 refine sP [0, 1, 4, 5, 6, 7, 5000] [0, 4, 5] ?_
 refine sL [0, 1, 4, 5, 6, 5000] [4] (fun k : Nat => k ≤ 3) (fun k : Nat => [(7, RV.int (k : Int))]) (fun k : Nat => [(0, (176, ce o (gC (aX (ak c 4).2 [3, 6, 100]).1 ⟨[], (aX (ak c 4).2 [3, 6, 100]).2⟩ k).c)), (5, (25, [val (vI id), val (vI (ak c 4).1), sl aP ((gC (aX (ak c 4).2 [3, 6, 100]).1 ⟨[], (aX (ak c 4).2 [3, 6, 100]).2⟩ k).l.map dj), sl ae (([] : List Int).map an)]))]) (fun k : Nat => 3 - k) 0 (by omega) (by exact aI (by exact rfl) tI) (by exact aI (by exact rfl) (aI (by exact rfl) tI)) ?_
 rintro k hk
 have hcl := AS (w := (aX (ak c 4).2 [3, 6, 100]).1) (s := ⟨[], (aX (ak c 4).2 [3, 6, 100]).2⟩) k
 have hb3 := dh (ak (gC (aX (ak c 4).2 [3, 6, 100]).1 ⟨[], (aX (ak c 4).2 [3, 6, 100]).2⟩ k).c 2).2 (aX (ak c 4).2 [3, 6, 100]).1
 have hb4 := di (ak (gC (aX (ak c 4).2 [3, 6, 100]).1 ⟨[], (aX (ak c 4).2 [3, 6, 100]).2⟩ k).c 2).2 (n := (aX (ak c 4).2 [3, 6, 100]).1) (by omega)
 have hb5 := dh (ak (ak (gC (aX (ak c 4).2 [3, 6, 100]).1 ⟨[], (aX (ak c 4).2 [3, 6, 100]).2⟩ k).c 2).2 (aX (ak c 4).2 [3, 6, 100]).1).2 (aX (ak c 4).2 [3, 6, 100]).1
 have hb6 := di (ak (ak (gC (aX (ak c 4).2 [3, 6, 100]).1 ⟨[], (aX (ak c 4).2 [3, 6, 100]).2⟩ k).c 2).2 (aX (ak c 4).2 [3, 6, 100]).1).2 (n := (aX (ak c 4).2 [3, 6, 100]).1) (by omega)
 simp only [List.length_nil, Nat.zero_add] at hcl
 refine rh ?_
 refine sc (fun hba => ?_) (fun hba => ?_)
 have hlt : k < 3 := by omega
 refine er ?_
 refine Iq ?_
 refine HE ?_
 refine sc (fun hbb => ?_) (fun hbb => ?_)
 have h1_ : (ak (gC (aX (ak c 4).2 [3, 6, 100]).1 ⟨[], (aX (ak c 4).2 [3, 6, 100]).2⟩ k).c 2).1 = 0 := by simpa using hbb
 refine sS [0, 1, 4, 5, 6, 7, 5000] [0, 4, 5] ?_
 refine rA ?_ (x := cM Cp.ptr)
 refine sW ?_
 refine rS ?_
 refine sS [0, 1, 4, 5, 6, 7, 8, 5000] [0, 4, 5] ?_
 refine rM ?_
 refine rA ?_ (x := cM Cp.ptr)
 refine sW ?_
 refine rA ?_ (x := iX)
 refine rA ?_ (x := Dj (by decide) (aJ rfl) (by exact tI))
 refine gA ?_
 refine sS [0, 1, 4, 5, 6, 7, 8, 9, 5000] [0, 4, 5] ?_
 refine HE ?_
 refine sc (fun hbc => ?_) (fun hbc => ?_)
 have hcn := Qv (w := (aX (ak c 4).2 [3, 6, 100]).1) (f := (k : Int)) (s := (gC (aX (ak c 4).2 [3, 6, 100]).1 ⟨[], (aX (ak c 4).2 [3, 6, 100]).2⟩ k)) h1_ (by simpa using hbc)
 refine sG [0, 1, 4, 5, 6, 7, 8, 9, 5000] [0, 4, 5] ?_
 refine rM ?_
 refine rS ?_
 exact Et
 have hcn := Qw (w := (aX (ak c 4).2 [3, 6, 100]).1) (f := (k : Int)) (s := (gC (aX (ak c 4).2 [3, 6, 100]).1 ⟨[], (aX (ak c 4).2 [3, 6, 100]).2⟩ k)) h1_ (by simpa using hbc)
 refine bc ?_
 exact Et
 have hcn := Qx (w := (aX (ak c 4).2 [3, 6, 100]).1) (f := (k : Int)) (s := (gC (aX (ak c 4).2 [3, 6, 100]).1 ⟨[], (aX (ak c 4).2 [3, 6, 100]).2⟩ k)) (by simpa using hbb)
 refine bc ?_
 refine sG [0, 1, 4, 5, 6, 7, 5000] [0, 4, 5] ?_
 exact Es
 have hend : k = 3 := by omega
 have hq : nL c = (gC (aX (ak c 4).2 [3, 6, 100]).1 ⟨[], (aX (ak c 4).2 [3, 6, 100]).2⟩ k) := by rw [hend]; rfl
 have hqn := Kb c
 have hqb : ak (gC (aX (ak c 4).2 [3, 6, 100]).1 ⟨[], (aX (ak c 4).2 [3, 6, 100]).2⟩ k).c 3 = ib c := by rw [← hq]; rfl
 have hqe : (ak (gC (aX (ak c 4).2 [3, 6, 100]).1 ⟨[], (aX (ak c 4).2 [3, 6, 100]).2⟩ k).c 3).1 = (ib c).1 := by rw [hqb]
 refine bE ?_
 refine dO ?_
 refine Iq ?_
 refine jG ?_
 refine kr ?_
 refine fM ?_
 refine sP [0, 1, 4, 5, 6, 7, 10, 5000] [0, 4, 5] ?_
 refine sL [0, 1, 4, 5, 6, 7, 5000] [4] (fun k2 : Nat => (k2 : Int) ≤ 1 + (ib c).1) (fun k2 : Nat => [(10, RV.int (1 + (ib c).1 - (k2 : Int)))]) (fun k2 : Nat => [(0, (176, ce o (gQ 3 (ib c).2 k2).2)), (5, (25, [val (vI id), val (vI (ak c 4).1), sl aP ((nL c).l.map dj), sl ae ((gQ 3 (ib c).2 k2).1.map an)]))]) (fun k2 : Nat => (1 + (ib c).1 - (k2 : Int)).toNat) 0 (by omega) (by exact aI (by exact bA (by omega)) tI) (by exact aI (by show _ = some (176, ce o (ib c).2); rw [← hqb]; rfl) (aI (by rw [hq]; exact rfl) tI)) ?_
 rintro k2 hk2
 have hvl : ((gQ 3 (ib c).2 k2).1).length = k2 := qk
 refine ri ?_
 refine sc (fun hbb => ?_) (fun hbb => ?_)
 have hlt2 : (k2 : Int) < 1 + (ib c).1 := by omega
 refine er ?_
 refine Im ?_
 refine jG ?_
 refine rS ?_
 refine sG [0, 1, 4, 5, 6, 7, 10, 11, 5000] [0, 4, 5] ?_
 refine rA ?_ (x := lF oT)
 refine sX ?_
 refine qT ?_
 refine rA ?_ (x := lF oT)
 refine rA ?_ (x := bf (ag := false) (vs := [sl _ _]) bz (by exact tI) (by exact rfl) (by exact nl rfl))
 refine sO [(0, _), (1, _), (4, _), (5, _), (6, _), (7, _), (10, _), (11, _), (5000, _)] [(0, _), (4, _), (5, (25, [val _, val _, sl _ _, sl _ _]))] ?_
 refine ku ?_
 refine rm ?_
 refine nx (k2 + 1) (by omega) (e := (by exact aI (by exact bA (by omega)) tI)) (f := (by exact aI (by exact rfl) (aI (by simp only [gQ, bb]; exact rfl) tI)))
 have hend2 : (1 + (ib c).1).toNat = k2 := by omega
 refine gM ?_
 refine Im ?_
 refine HD ?_
 refine dc ?_
 exact ⟨(by unfold gS tX; rw [hend2]; exact rfl), rfl, (bj 4 (bj _ (aI (by exact rfl) (aI (by refine dW ?_; unfold gS tX; rw [hend2]; exact rfl) (aI fh (aI (fun h => nomatch h) tI))))))⟩
end Go.Proofs.YtmekkgdboplbjaaGreatDoor
