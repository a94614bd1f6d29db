/- What functions of the program compute. No condition. -/
import Derived.Test.YtmekkgdboplbjaaGreatCD0
import Derived.Test.YtmekkgdboplbjaaGreatCF0
set_option linter.all false
namespace Go.Proofs.YtmekkgdboplbjaaGreat
open Go Go.RowKit M PV Tryz
set_option maxRecDepth 10000
attribute [local irreducible] PV.Lcl PV.LclR RV.Lcl
def my {x : List Int} {k : Int} (h0k : 0 ≤ k) (hbk : (aj aR x k).2 ≤ 4611686018427387904) : jp prog 130 false [sl aa (x.map ak)] [sl aa ((aj aR x k).1.map ak)] [(false, [val (vI k)])] (vI (aj aR x k).2) := by
 refine lK func130 rfl (nl rfl) (jS (an.cons (bor_val _) an.nil) jR) ?_
 intro us h0 w0 Fz0 hus
 obtain ⟨u0, rfl⟩ := nQ hus
 by_cases hx : x = []
 subst hx
 refine oD ?_
 rintro _ _
 refine mU ?_
 refine rA ?_ (x := lN bF)
 exact nX
 refine nK (s := 0) (D := 999) (E := 3) (e := 1) (u := u0) (es := x.map ak) (L := dD) (by exact rfl) (by simpa using hx) (by exact rfl) (by exact rfl) (fun x hx => hx.elim) (by exact aI (.inl rfl) (aI (.inr (RV.lcl_sv (ai.cons lcl_val ai.nil))) tI)) tI (ai.map fun x => (ai.cons lcl_val ai.nil)) fun cp jk hl0 hcp hjk => ?_
 have hlm : (x.map ak).length = x.length := aq _
 rw [hlm] at hl0 hcp
 have hmono := iA dy x
 have hmono0 := fun i => bp dy (x.take i) k
 refine oE ?_
 refine sL [0, 4] [] (fun i : Nat => i ≤ x.length) (fun i : Nat => [(1, RV.int (aj aR (x.take i) k).2), (5, RV.int (i : Int))]) (fun i : Nat => [(999, (3, (((aj aR (x.take i) k).1 ++ x.drop i).map ak).flatten ++ jk.map val))]) (fun i : Nat => x.length - i) 0 (by omega) (by exact aI (by exact rfl) (aI (by exact rfl) tI)) (by exact aI (by exact congrArg (fun z => some (3, z)) nP) tI) ?_
 rintro i hi
 refine oF ?_
 refine rA ?_ (x := nG (by decide) bF)
 refine rA ?_ (x := cu)
 refine sc (fun hba => ?_) (fun hba => ?_)
 have hlt : i < x.length := by omega
 have hk0 := hmono0 i
 have hk1 := hmono (i + 1) k
 rw [eE hlt] at hk1
 dsimp only at hk1
 simp only [aR] at hk1
 refine bV (d := 999) (by exact rfl) (nM hlt) ?_
 have hA := nO (f := aR) (c := ak) (e := 1) (k := k) (fun _ => rfl) (Nat.le_of_lt hlt)
 refine cO ?_
 refine sO [(0, _), (1, _), (4, _), (5, _)] [(999, (3, _ ++ ([val _] ++ _)))] ?_
 refine pG ?_
 refine rM ?_
 refine rA ?_ (x := dN (by decide) bF (by exact tI) (by exact rfl) (by omega))
 refine rA ?_ (x := fD (o := 0) (ag := false) (vs := [val _]) (by omega) au (by exact tI) (by exact rfl) (by exact nl rfl))
 refine sO [(0, _), (1, _), (4, _), (5, _)] [(999, (3, _ ++ ([val _] ++ _)))] ?_
 refine fU ?_
 refine sG [0, 1, 4, 5] [999] ?_
 refine cW ?_
 refine nx (i + 1) (by omega) (e := (by exact aI (by exact bh (by rw [eE hlt]; rfl)) (aI (by exact rfl) tI))) (f := (by exact aI (by exact congrArg (fun z => some (3, z)) (nN hlt rfl)) tI))
 exact Gi
def De {x : List dg} {k : Int} (h0k : 0 ≤ k) (hbk : (aj bz x k).2 ≤ 4611686018427387904) : jp prog 141 false [sl aw (x.map bj)] [sl aw ((aj bz x k).1.map bj)] [(false, [val (vI k)])] (vI (aj bz x k).2) := by
 refine lK func141 rfl (nl rfl) (jS (an.cons (bor_val _) an.nil) jR) ?_
 intro us h0 w0 Fz0 hus
 obtain ⟨u0, rfl⟩ := nQ hus
 by_cases hx : x = []
 subst hx
 refine oD ?_
 rintro _ _
 refine mU ?_
 refine rA ?_ (x := lN eC)
 exact nX
 refine nK (s := 0) (D := 999) (E := 178) (e := 3) (u := u0) (es := x.map bj) (L := dD) (by exact rfl) (by simpa using hx) (by exact rfl) (by exact rfl) (fun x hx => hx.elim) (by exact aI (.inl rfl) (aI (.inr (RV.lcl_sv (ai.cons lcl_val ai.nil))) tI)) tI (ai.map fun x => (ai.cons lcl_val (ai.cons lcl_val (ai.cons lcl_val ai.nil)))) fun cp jk hl0 hcp hjk => ?_
 have hlm : (x.map bj).length = x.length := aq _
 rw [hlm] at hl0 hcp
 have hmono := iA lb x
 have hmono0 := fun i => bp lb (x.take i) k
 refine oE ?_
 refine sL [0, 4] [] (fun i : Nat => i ≤ x.length) (fun i : Nat => [(1, RV.int (aj bz (x.take i) k).2), (5, RV.int (i : Int))]) (fun i : Nat => [(999, (178, (((aj bz (x.take i) k).1 ++ x.drop i).map bj).flatten ++ jk.map val))]) (fun i : Nat => x.length - i) 0 (by omega) (by exact aI (by exact rfl) (aI (by exact rfl) tI)) (by exact aI (by exact congrArg (fun z => some (178, z)) nP) tI) ?_
 rintro i hi
 refine oF ?_
 refine rA ?_ (x := nG (by decide) eC)
 refine rA ?_ (x := cu)
 refine sc (fun hba => ?_) (fun hba => ?_)
 have hlt : i < x.length := by omega
 have hk0 := hmono0 i
 have hk1 := hmono (i + 1) k
 rw [eE hlt] at hk1
 dsimp only at hk1
 simp only [bz] at hk1
 refine bV (d := 999) (by exact rfl) (nM hlt) ?_
 have hA := nO (f := bz) (c := bj) (e := 3) (k := k) (fun _ => rfl) (Nat.le_of_lt hlt)
 refine cO ?_
 refine sO [(0, _), (1, _), (4, _), (5, _)] [(999, (178, _ ++ ([val _, val _, val _] ++ _)))] ?_
 refine pG ?_
 refine Bu ?_
 refine rA ?_ (x := lF mh)
 refine qB ?_
 refine Mn ?_
 refine Bu ?_
 refine rA ?_ (x := lF pQ)
 refine uh ?_
 refine Mn ?_
 refine Bu ?_
 refine rA ?_ (x := lF mi)
 refine rA ?_ (x := fD (o := 2) (ag := false) (vs := [val _]) (by omega) au (by exact tI) (by exact rfl) (by exact nl rfl))
 refine sO [(0, _), (1, _), (4, _), (5, _)] [(999, (178, _ ++ ([val _, val _, val _] ++ _)))] ?_
 refine fU ?_
 refine sG [0, 1, 4, 5] [999] ?_
 refine cW ?_
 refine nx (i + 1) (by omega) (e := (by exact aI (by exact bh (by rw [eE hlt]; rfl)) (aI (by exact rfl) tI))) (f := (by exact aI (by exact congrArg (fun z => some (178, z)) (nN hlt rfl)) tI))
 have hend : i = x.length := by omega
 refine bV (d := 999) (by exact rfl) (pj hend) ?_
 refine ph (s := 0) (D := 999) (e := 3) (by exact rfl) (by exact rfl) (by rw [aq, gP, aq]) (by intro c hc; obtain ⟨y, _, rfl⟩ := List.mem_map.1 hc; exact rfl) hjk ?_
 exact pn
def YX {x : List cU} {k : Int} (h0k : 0 ≤ k) (hbk : (aj fj x k).2 ≤ 4611686018427387904) : jp prog 133 false [sl bP (x.map (aZ aa aa aa))] [sl bP ((aj fj x k).1.map (aZ aa aa aa))] [(false, [val (vI k)])] (vI (aj fj x k).2) := by
 refine lK func133 rfl (nl rfl) (jS (an.cons (bor_val _) an.nil) jR) ?_
 intro us h0 w0 Fz0 hus
 obtain ⟨u0, rfl⟩ := nQ hus
 by_cases hx : x = []
 subst hx
 refine oD ?_
 rintro _ _
 refine mU ?_
 refine rA ?_ (x := lN eB)
 exact nX
 refine nK (s := 0) (D := 999) (E := 70) (e := 5) (u := u0) (es := x.map (aZ aa aa aa)) (L := dD) (by exact rfl) (by simpa using hx) (by exact rfl) (by exact rfl) (fun x hx => hx.elim) (by exact aI (.inl rfl) (aI (.inr (RV.lcl_sv (ai.cons lcl_val ai.nil))) tI)) tI (ai.map fun x => (ai.cons lcl_val (ai.cons lcl_val (ai.cons (lcl_own (ai.map fun x => (ai.cons lcl_val ai.nil))) (ai.cons (lcl_own (ai.map fun x => (ai.cons lcl_val ai.nil))) (ai.cons (lcl_own (ai.map fun x => (ai.cons lcl_val ai.nil))) ai.nil)))))) fun cp jk hl0 hcp hjk => ?_
 have hlm : (x.map (aZ aa aa aa)).length = x.length := aq _
 rw [hlm] at hl0 hcp
 have hmono := iA ra x
 have hmono0 := fun i => bp ra (x.take i) k
 refine oE ?_
 refine sL [0, 4] [] (fun i : Nat => i ≤ x.length) (fun i : Nat => [(1, RV.int (aj fj (x.take i) k).2), (5, RV.int (i : Int))]) (fun i : Nat => [(999, (70, (((aj fj (x.take i) k).1 ++ x.drop i).map (aZ aa aa aa)).flatten ++ jk.map val))]) (fun i : Nat => x.length - i) 0 (by omega) (by exact aI (by exact rfl) (aI (by exact rfl) tI)) (by exact aI (by exact congrArg (fun z => some (70, z)) nP) tI) ?_
 rintro i hi
 refine oF ?_
 refine rA ?_ (x := nG (by decide) eB)
 refine rA ?_ (x := cu)
 refine sc (fun hba => ?_) (fun hba => ?_)
 have hlt : i < x.length := by omega
 have hk0 := hmono0 i
 have hk1 := hmono (i + 1) k
 rw [eE hlt] at hk1
 dsimp only at hk1
 have hm0 := bp dy x[i].Ids (((aj fj (x.take i) k).2 + 1) + 1)
 have hm1 := bp dy x[i].acA (aj aR x[i].Ids (((aj fj (x.take i) k).2 + 1) + 1)).2
 have hm2 := bp dy x[i].Rows (aj aR x[i].acA (aj aR x[i].Ids (((aj fj (x.take i) k).2 + 1) + 1)).2).2
 simp only [fj] at hk1
 refine bV (d := 999) (by exact rfl) (nM hlt) ?_
 have hA := nO (f := fj) (c := (aZ aa aa aa)) (e := 5) (k := k) (fun _ => rfl) (Nat.le_of_lt hlt)
 refine nI (d := 999) (ms := [val _, val _, sl _ _, sl _ _, sl _ _]) (by exact rfl) fun us hus => ?_
 obtain ⟨v0, v1, v2, v3, v4, rfl⟩ := Sk hus
 refine cO ?_
 refine sO [(0, _), (1, _), (4, _), (5, _)] [(999, (70, _ ++ ([nv _ (val _), nv _ (val _), nv _ (sl _ _), nv _ (sl _ _), nv _ (sl _ _)] ++ _)))] ?_
 refine pG ?_
 refine Mq ?_
 refine rA ?_ (x := lF pS)
 refine qB ?_
 refine sO [(0, _), (1, _), (4, _), (5, _)] [(999, (70, _ ++ ([val _, nv _ (val _), nv _ (sl _ _), nv _ (sl _ _), nv _ (sl _ _)] ++ _)))] ?_
 refine oq ?_
 refine Mq ?_
 refine rA ?_ (x := lF ng)
 refine uh ?_
 refine sO [(0, _), (1, _), (4, _), (5, _)] [(999, (70, _ ++ ([val _, val _, nv _ (sl _ _), nv _ (sl _ _), nv _ (sl _ _)] ++ _)))] ?_
 refine qT ?_
 refine aO (by exact ⟨rfl, ⟨⟩⟩) (by exact tI) (ay.of rfl (be (.inl rfl) (by decide) (by exact Cp.nm Cp.hdr))) aG ?_
 refine aO (by exact ⟨rfl, ⟨⟩⟩) (by exact tI) (ay.of rfl (be (.inl rfl) (by decide) (by exact Cp.sc))) aG ?_
 refine aO (by exact ⟨rfl, rfl, ⟨⟩⟩) (by exact tI) (ay.of rfl (dN (by decide) eB (by exact tI) (by exact rfl) (by omega))) aG ?_
 refine aO (by exact ⟨rfl, ⟨⟩⟩) (by exact tI) (ay.of rfl (eh (by decide) mn)) aG ?_
 refine aO (by exact ⟨rfl, ⟨⟩⟩) (by exact ⟨rfl, ⟨⟩⟩) (ay.of rfl (fR (o := 2) (qs := [val _]) (by omega) (by decide) bv (fun _ => rfl) (by exact nl rfl) (by exact (am.cons cN am.nil)) (by exact (an.cons (bor_val _) an.nil)))) aG ?_
 refine aO (by exact ⟨rfl, ⟨⟩⟩) (by exact tI) (ay.of rfl (be (.inl rfl) (by decide) (by exact Cp.sc))) aG ?_
 refine ff (l := [(0, RV.nm _ (RV.hdr 999 _ _)), (1, RV.sv false [val _]), (4, RV.sv false [val _]), (5, RV.sv false [val _]), (26, RV.hdr 999 _ _), (27, RV.sv false [val _]), (28, RV.ptr 999 _), (29, RV.ptr 999 _), (30, RV.sv false [val _]), (31, RV.sv false [val _])]) (b := [(999, (70, _ ++ ([val _, val _, nv _ (sl _ _), nv _ (sl _ _), nv _ (sl _ _)] ++ _)))]) (by exact ⟨rfl, rfl, rfl, rfl, rfl, rfl, rfl, rfl, rfl, rfl, ⟨⟩⟩) (by exact ⟨rfl, ⟨⟩⟩) ?_
 refine iP (bx := 999) (L := dD) (pre := [val _, val _]) (ms := [nv _ (sl _ _)]) (post := [nv _ (sl _ _), nv _ (sl _ _)]) (qr := [(false, [val _])]) (as_ := [(false, [val _])]) (by decide) me rfl (by exact rfl) (by exact (Nm.val Nm.nil)) (by exact ⟨rfl, ⟨⟩⟩) (by exact (aI (by exact tI) tI)) (by exact aI (aI rfl (ap am.nil)) tI) (by exact rfl) (by exact (Nm.nv Nm.nil)) (by exact (aN.nv aN.nil)) (by exact my (by omega) (by omega)) (by exact (bA.nv bA.nil)) (fun x hx => hx.elim) (by exact lc) (by exact (aI (.inl rfl) tI)) (by exact lc) (by exact lc) (by exact lc) (by exact lc) rfl ?_
 refine aO (by exact ⟨rfl, ⟨⟩⟩) (by exact tI) (ay.of rfl (be (.inr rfl) (by decide) (by exact Cp.sc))) aG ?_
 refine dO ?_
 refine aP ?_
 refine oh ?_
 refine aO (by exact ⟨rfl, ⟨⟩⟩) (by exact tI) (ay.of rfl (be (.inl rfl) (by decide) (by exact Cp.nm Cp.hdr))) aG ?_
 refine aO (by exact ⟨rfl, ⟨⟩⟩) (by exact tI) (ay.of rfl (be (.inl rfl) (by decide) (by exact Cp.sc))) aG ?_
 refine aO (by exact ⟨rfl, rfl, ⟨⟩⟩) (by exact tI) (ay.of rfl (dN (by decide) eB (by exact tI) (by exact rfl) (by omega))) aG ?_
 refine aO (by exact ⟨rfl, ⟨⟩⟩) (by exact tI) (ay.of rfl (eh (by decide) kl)) aG ?_
 refine aO (by exact ⟨rfl, ⟨⟩⟩) (by exact ⟨rfl, ⟨⟩⟩) (ay.of rfl (fR (o := 3) (qs := [val _]) (by omega) (by decide) bv (fun _ => rfl) (by exact nl rfl) (by exact (am.cons cN am.nil)) (by exact (an.cons (bor_val _) an.nil)))) aG ?_
 refine aO (by exact ⟨rfl, ⟨⟩⟩) (by exact tI) (ay.of rfl (be (.inl rfl) (by decide) (by exact Cp.sc))) aG ?_
 refine ff (l := [(0, RV.nm _ (RV.hdr 999 _ _)), (1, RV.sv false [val _]), (4, RV.sv false [val _]), (5, RV.sv false [val _]), (33, RV.hdr 999 _ _), (34, RV.sv false [val _]), (35, RV.ptr 999 _), (36, RV.ptr 999 _), (37, RV.sv false [val _]), (38, RV.sv false [val _])]) (b := [(999, (70, _ ++ ([val _, val _, nv _ (sl _ _), nv _ (sl _ _), nv _ (sl _ _)] ++ _)))]) (by exact ⟨rfl, rfl, rfl, rfl, rfl, rfl, rfl, rfl, rfl, rfl, ⟨⟩⟩) (by exact ⟨rfl, ⟨⟩⟩) ?_
 refine iP (bx := 999) (L := dD) (pre := [val _, val _, nv _ (sl _ _)]) (ms := [nv _ (sl _ _)]) (post := [nv _ (sl _ _)]) (qr := [(false, [val _])]) (as_ := [(false, [val _])]) (by decide) me rfl (by exact rfl) (by exact (Nm.val Nm.nil)) (by exact ⟨rfl, ⟨⟩⟩) (by exact (aI (by exact tI) tI)) (by exact aI (aI rfl (ap am.nil)) tI) (by exact rfl) (by exact (Nm.nv Nm.nil)) (by exact (aN.nv aN.nil)) (by exact my (by omega) (by omega)) (by exact (bA.nv bA.nil)) (fun x hx => hx.elim) (by exact lc) (by exact (aI (.inl rfl) tI)) (by exact lc) (by exact lc) (by exact lc) (by exact lc) rfl ?_
 refine aO (by exact ⟨rfl, ⟨⟩⟩) (by exact tI) (ay.of rfl (be (.inr rfl) (by decide) (by exact Cp.sc))) aG ?_
 refine dO ?_
 refine oh ?_
 refine aO (by exact ⟨rfl, ⟨⟩⟩) (by exact tI) (ay.of rfl (be (.inl rfl) (by decide) (by exact Cp.nm Cp.hdr))) aG ?_
 refine aO (by exact ⟨rfl, ⟨⟩⟩) (by exact tI) (ay.of rfl (be (.inl rfl) (by decide) (by exact Cp.sc))) aG ?_
 refine aO (by exact ⟨rfl, rfl, ⟨⟩⟩) (by exact tI) (ay.of rfl (dN (by decide) eB (by exact tI) (by exact rfl) (by omega))) aG ?_
 refine aO (by exact ⟨rfl, ⟨⟩⟩) (by exact tI) (ay.of rfl (eh (by decide) iZ)) aG ?_
 refine aO (by exact ⟨rfl, ⟨⟩⟩) (by exact ⟨rfl, ⟨⟩⟩) (ay.of rfl (fR (o := 4) (qs := [val _]) (by omega) (by decide) bv (fun _ => rfl) (by exact nl rfl) (by exact (am.cons cN am.nil)) (by exact (an.cons (bor_val _) an.nil)))) aG ?_
 refine aO (by exact ⟨rfl, ⟨⟩⟩) (by exact tI) (ay.of rfl (be (.inl rfl) (by decide) (by exact Cp.sc))) aG ?_
 refine ff (l := [(0, RV.nm _ (RV.hdr 999 _ _)), (1, RV.sv false [val _]), (4, RV.sv false [val _]), (5, RV.sv false [val _]), (40, RV.hdr 999 _ _), (41, RV.sv false [val _]), (42, RV.ptr 999 _), (43, RV.ptr 999 _), (44, RV.sv false [val _]), (45, RV.sv false [val _])]) (b := [(999, (70, _ ++ ([val _, val _, nv _ (sl _ _), nv _ (sl _ _), nv _ (sl _ _)] ++ _)))]) (by exact ⟨rfl, rfl, rfl, rfl, rfl, rfl, rfl, rfl, rfl, rfl, ⟨⟩⟩) (by exact ⟨rfl, ⟨⟩⟩) ?_
 refine iP (bx := 999) (L := dD) (pre := [val _, val _, nv _ (sl _ _), nv _ (sl _ _)]) (ms := [nv _ (sl _ _)]) (post := []) (qr := [(false, [val _])]) (as_ := [(false, [val _])]) (by decide) me rfl (by exact rfl) (by exact (Nm.val Nm.nil)) (by exact ⟨rfl, ⟨⟩⟩) (by exact (aI (by exact tI) tI)) (by exact aI (aI rfl (ap am.nil)) tI) (by exact rfl) (by exact (Nm.nv Nm.nil)) (by exact (aN.nv aN.nil)) (by exact my (by omega) (by omega)) (by exact (bA.nv bA.nil)) (fun x hx => hx.elim) (by exact lc) (by exact (aI (.inl rfl) tI)) (by exact lc) (by exact lc) (by exact ai.nil) (by exact lc) rfl ?_
 refine aO (by exact ⟨rfl, ⟨⟩⟩) (by exact tI) (ay.of rfl (be (.inr rfl) (by decide) (by exact Cp.sc))) aG ?_
 refine dO ?_
 refine qf (d := 999) (by exact rfl) (by exact (aN.same (aN.same (aN.nv (aN.nv (aN.nv aN.nil)))))) ?_
 refine sO [(0, _), (1, _), (4, _), (5, _)] [(999, (70, _ ++ ([val _, val _, sl _ _, sl _ _, sl _ _] ++ _)))] ?_
 refine fU ?_
 refine nx (i + 1) (by omega) (e := (by exact aI (by exact bh (by rw [eE hlt]; rfl)) (aI (by exact rfl) tI))) (f := (by exact aI (by exact congrArg (fun z => some (70, z)) (nN hlt rfl)) tI))
 have hend : i = x.length := by omega
 refine bV (d := 999) (by exact rfl) (pj hend) ?_
 refine ph (s := 0) (D := 999) (e := 5) (by exact rfl) (by exact rfl) (by rw [aq, gP, aq]) (by intro c hc; obtain ⟨y, _, rfl⟩ := List.mem_map.1 hc; exact rfl) hjk ?_
 exact pn
def OW {x : List Row} {k : Int} (h0k : 0 ≤ k) (hbk : (aj fk x k).2 ≤ 4611686018427387904) : jp prog 222 false [sl az (x.map (bC aa))] [sl az ((aj fk x k).1.map (bC aa))] [(false, [val (vI k)])] (vI (aj fk x k).2) := by
 refine lK func222 rfl (nl rfl) (jS (an.cons (bor_val _) an.nil) jR) ?_
 intro us h0 w0 Fz0 hus
 obtain ⟨u0, rfl⟩ := nQ hus
 by_cases hx : x = []
 subst hx
 refine oD ?_
 rintro _ _
 refine mU ?_
 refine rA ?_ (x := lN gw)
 exact nX
 refine nK (s := 0) (D := 999) (E := 54) (e := 2) (u := u0) (es := x.map (bC aa)) (L := dD) (by exact rfl) (by simpa using hx) (by exact rfl) (by exact rfl) (fun x hx => hx.elim) (by exact aI (.inl rfl) (aI (.inr (RV.lcl_sv (ai.cons lcl_val ai.nil))) tI)) tI (ai.map fun x => (ai.cons lcl_val (ai.cons (lcl_own (ai.map fun x => (ai.cons lcl_val ai.nil))) ai.nil))) fun cp jk hl0 hcp hjk => ?_
 have hlm : (x.map (bC aa)).length = x.length := aq _
 rw [hlm] at hl0 hcp
 have hmono := iA mX x
 have hmono0 := fun i => bp mX (x.take i) k
 refine oE ?_
 refine sL [0, 4] [] (fun i : Nat => i ≤ x.length) (fun i : Nat => [(1, RV.int (aj fk (x.take i) k).2), (5, RV.int (i : Int))]) (fun i : Nat => [(999, (54, (((aj fk (x.take i) k).1 ++ x.drop i).map (bC aa)).flatten ++ jk.map val))]) (fun i : Nat => x.length - i) 0 (by omega) (by exact aI (by exact rfl) (aI (by exact rfl) tI)) (by exact aI (by exact congrArg (fun z => some (54, z)) nP) tI) ?_
 rintro i hi
 refine oF ?_
 refine rA ?_ (x := nG (by decide) gw)
 refine rA ?_ (x := cu)
 refine sc (fun hba => ?_) (fun hba => ?_)
 have hlt : i < x.length := by omega
 have hk0 := hmono0 i
 have hk1 := hmono (i + 1) k
 rw [eE hlt] at hk1
 dsimp only at hk1
 have hm0 := bp dy x[i].Values ((aj fk (x.take i) k).2 + 1)
 simp only [fk] at hk1
 refine bV (d := 999) (by exact rfl) (nM hlt) ?_
 have hA := nO (f := fk) (c := (bC aa)) (e := 2) (k := k) (fun _ => rfl) (Nat.le_of_lt hlt)
 refine nI (d := 999) (ms := [val _, sl _ _]) (by exact rfl) fun us hus => ?_
 obtain ⟨v0, v1, rfl⟩ := Cn hus
 refine cO ?_
 refine sO [(0, _), (1, _), (4, _), (5, _)] [(999, (54, _ ++ ([nv _ (val _), nv _ (sl _ _)] ++ _)))] ?_
 refine pG ?_
 refine rM ?_
 refine rA ?_ (x := dN (by decide) gw (by exact tI) (by exact rfl) (by omega))
 refine rA ?_ (x := lF kk)
 refine qB ?_
 refine sO [(0, _), (1, _), (4, _), (5, _)] [(999, (54, _ ++ ([val _, nv _ (sl _ _)] ++ _)))] ?_
 refine fU ?_
 refine oh ?_
 refine aO (by exact ⟨rfl, ⟨⟩⟩) (by exact tI) (ay.of rfl (be (.inl rfl) (by decide) (by exact Cp.nm Cp.hdr))) aG ?_
 refine aO (by exact ⟨rfl, ⟨⟩⟩) (by exact tI) (ay.of rfl (be (.inl rfl) (by decide) (by exact Cp.sc))) aG ?_
 refine aO (by exact ⟨rfl, rfl, ⟨⟩⟩) (by exact tI) (ay.of rfl (dN (by decide) gw (by exact tI) (by exact rfl) (by omega))) aG ?_
 refine aO (by exact ⟨rfl, ⟨⟩⟩) (by exact tI) (ay.of rfl (eh (by decide) iw)) aG ?_
 refine aO (by exact ⟨rfl, ⟨⟩⟩) (by exact ⟨rfl, ⟨⟩⟩) (ay.of rfl (fR (o := 1) (qs := [val _]) (by omega) (by decide) bv (fun _ => rfl) (by exact nl rfl) (by exact (am.cons cN am.nil)) (by exact (an.cons (bor_val _) an.nil)))) aG ?_
 refine aO (by exact ⟨rfl, ⟨⟩⟩) (by exact tI) (ay.of rfl (be (.inl rfl) (by decide) (by exact Cp.sc))) aG ?_
 refine ff (l := [(0, RV.nm _ (RV.hdr 999 _ _)), (1, RV.sv false [val _]), (4, RV.sv false [val _]), (5, RV.sv false [val _]), (19, RV.hdr 999 _ _), (20, RV.sv false [val _]), (21, RV.ptr 999 _), (22, RV.ptr 999 _), (23, RV.sv false [val _]), (24, RV.sv false [val _])]) (b := [(999, (54, _ ++ ([val _, nv _ (sl _ _)] ++ _)))]) (by exact ⟨rfl, rfl, rfl, rfl, rfl, rfl, rfl, rfl, rfl, rfl, ⟨⟩⟩) (by exact ⟨rfl, ⟨⟩⟩) ?_
 refine iP (bx := 999) (L := dD) (pre := [val _]) (ms := [nv _ (sl _ _)]) (post := []) (qr := [(false, [val _])]) (as_ := [(false, [val _])]) (by decide) me rfl (by exact rfl) (by exact (Nm.val Nm.nil)) (by exact ⟨rfl, ⟨⟩⟩) (by exact (aI (by exact tI) tI)) (by exact aI (aI rfl (ap am.nil)) tI) (by exact rfl) (by exact (Nm.nv Nm.nil)) (by exact (aN.nv aN.nil)) (by exact my (by omega) (by omega)) (by exact (bA.nv bA.nil)) (fun x hx => hx.elim) (by exact lc) (by exact (aI (.inl rfl) tI)) (by exact lc) (by exact lc) (by exact ai.nil) (by exact lc) rfl ?_
 refine aO (by exact ⟨rfl, ⟨⟩⟩) (by exact tI) (ay.of rfl (be (.inr rfl) (by decide) (by exact Cp.sc))) aG ?_
 refine dO ?_
 refine qf (d := 999) (by exact rfl) (by exact (aN.same (aN.nv aN.nil))) ?_
 refine sO [(0, _), (1, _), (4, _), (5, _)] [(999, (54, _ ++ ([val _, sl _ _] ++ _)))] ?_
 refine fU ?_
 refine nx (i + 1) (by omega) (e := (by exact aI (by exact bh (by rw [eE hlt]; rfl)) (aI (by exact rfl) tI))) (f := (by exact aI (by exact congrArg (fun z => some (54, z)) (nN hlt rfl)) tI))
 have hend : i = x.length := by omega
 refine bV (d := 999) (by exact rfl) (pj hend) ?_
 refine ph (s := 0) (D := 999) (e := 2) (by exact rfl) (by exact rfl) (by rw [aq, gP, aq]) (by intro c hc; obtain ⟨y, _, rfl⟩ := List.mem_map.1 hc; exact rfl) hjk ?_
 exact pn
def YY {x : List aU} {k : Int} (h0k : 0 ≤ k) (hbk : (aj gt x k).2 ≤ 4611686018427387904) : jp prog 268 false [sl aS (x.map (cX aa))] [sl aS ((aj gt x k).1.map (cX aa))] [(false, [val (vI k)])] (vI (aj gt x k).2) := by
 refine lK func268 rfl (nl rfl) (jS (an.cons (bor_val _) an.nil) jR) ?_
 intro us h0 w0 Fz0 hus
 obtain ⟨u0, rfl⟩ := nQ hus
 by_cases hx : x = []
 subst hx
 refine oD ?_
 rintro _ _
 refine mU ?_
 refine rA ?_ (x := lN cv)
 exact nX
 refine nK (s := 0) (D := 999) (E := 184) (e := 4) (u := u0) (es := x.map (cX aa)) (L := dD) (by exact rfl) (by simpa using hx) (by exact rfl) (by exact rfl) (fun x hx => hx.elim) (by exact aI (.inl rfl) (aI (.inr (RV.lcl_sv (ai.cons lcl_val ai.nil))) tI)) tI (ai.map fun x => (ai.cons lcl_val (ai.cons (lcl_own (ai.map fun x => (ai.cons lcl_val ai.nil))) (ai.cons lcl_val (ai.cons lcl_val ai.nil))))) fun cp jk hl0 hcp hjk => ?_
 have hlm : (x.map (cX aa)).length = x.length := aq _
 rw [hlm] at hl0 hcp
 have hmono := iA rc x
 have hmono0 := fun i => bp rc (x.take i) k
 refine oE ?_
 refine sL [0, 4] [] (fun i : Nat => i ≤ x.length) (fun i : Nat => [(1, RV.int (aj gt (x.take i) k).2), (5, RV.int (i : Int))]) (fun i : Nat => [(999, (184, (((aj gt (x.take i) k).1 ++ x.drop i).map (cX aa)).flatten ++ jk.map val))]) (fun i : Nat => x.length - i) 0 (by omega) (by exact aI (by exact rfl) (aI (by exact rfl) tI)) (by exact aI (by exact congrArg (fun z => some (184, z)) nP) tI) ?_
 rintro i hi
 refine oF ?_
 refine rA ?_ (x := nG (by decide) cv)
 refine rA ?_ (x := cu)
 refine sc (fun hba => ?_) (fun hba => ?_)
 have hlt : i < x.length := by omega
 have hk0 := hmono0 i
 have hk1 := hmono (i + 1) k
 rw [eE hlt] at hk1
 dsimp only at hk1
 have hm0 := bp dy x[i].Values ((aj gt (x.take i) k).2 + 1)
 simp only [gt] at hk1
 refine bV (d := 999) (by exact rfl) (nM hlt) ?_
 have hA := nO (f := gt) (c := (cX aa)) (e := 4) (k := k) (fun _ => rfl) (Nat.le_of_lt hlt)
 refine nI (d := 999) (ms := [val _, sl _ _, val _, val _]) (by exact rfl) fun us hus => ?_
 obtain ⟨v0, v1, v2, v3, rfl⟩ := Sj hus
 refine cO ?_
 refine sO [(0, _), (1, _), (4, _), (5, _)] [(999, (184, _ ++ ([nv _ (val _), nv _ (sl _ _), nv _ (val _), nv _ (val _)] ++ _)))] ?_
 refine pG ?_
 refine Bs ?_
 refine rA ?_ (x := lF na)
 refine qB ?_
 refine sO [(0, _), (1, _), (4, _), (5, _)] [(999, (184, _ ++ ([val _, nv _ (sl _ _), nv _ (val _), nv _ (val _)] ++ _)))] ?_
 refine qT ?_
 refine aO (by exact ⟨rfl, ⟨⟩⟩) (by exact tI) (ay.of rfl (be (.inl rfl) (by decide) (by exact Cp.nm Cp.hdr))) aG ?_
 refine aO (by exact ⟨rfl, ⟨⟩⟩) (by exact tI) (ay.of rfl (be (.inl rfl) (by decide) (by exact Cp.sc))) aG ?_
 refine aO (by exact ⟨rfl, rfl, ⟨⟩⟩) (by exact tI) (ay.of rfl (dN (by decide) cv (by exact tI) (by exact rfl) (by omega))) aG ?_
 refine aO (by exact ⟨rfl, ⟨⟩⟩) (by exact tI) (ay.of rfl (eh (by decide) jE)) aG ?_
 refine aO (by exact ⟨rfl, ⟨⟩⟩) (by exact ⟨rfl, ⟨⟩⟩) (ay.of rfl (fR (o := 1) (qs := [val _]) (by omega) (by decide) bv (fun _ => rfl) (by exact nl rfl) (by exact (am.cons cN am.nil)) (by exact (an.cons (bor_val _) an.nil)))) aG ?_
 refine aO (by exact ⟨rfl, ⟨⟩⟩) (by exact tI) (ay.of rfl (be (.inl rfl) (by decide) (by exact Cp.sc))) aG ?_
 refine ff (l := [(0, RV.nm _ (RV.hdr 999 _ _)), (1, RV.sv false [val _]), (4, RV.sv false [val _]), (5, RV.sv false [val _]), (19, RV.hdr 999 _ _), (20, RV.sv false [val _]), (21, RV.ptr 999 _), (22, RV.ptr 999 _), (23, RV.sv false [val _]), (24, RV.sv false [val _])]) (b := [(999, (184, _ ++ ([val _, nv _ (sl _ _), nv _ (val _), nv _ (val _)] ++ _)))]) (by exact ⟨rfl, rfl, rfl, rfl, rfl, rfl, rfl, rfl, rfl, rfl, ⟨⟩⟩) (by exact ⟨rfl, ⟨⟩⟩) ?_
 refine iP (bx := 999) (L := dD) (pre := [val _]) (ms := [nv _ (sl _ _)]) (post := [nv _ (val _), nv _ (val _)]) (qr := [(false, [val _])]) (as_ := [(false, [val _])]) (by decide) me rfl (by exact rfl) (by exact (Nm.val Nm.nil)) (by exact ⟨rfl, ⟨⟩⟩) (by exact (aI (by exact tI) tI)) (by exact aI (aI rfl (ap am.nil)) tI) (by exact rfl) (by exact (Nm.nv Nm.nil)) (by exact (aN.nv aN.nil)) (by exact my (by omega) (by omega)) (by exact (bA.nv bA.nil)) (fun x hx => hx.elim) (by exact lc) (by exact (aI (.inl rfl) tI)) (by exact lc) (by exact lc) (by exact lc) (by exact lc) rfl ?_
 refine aO (by exact ⟨rfl, ⟨⟩⟩) (by exact tI) (ay.of rfl (be (.inr rfl) (by decide) (by exact Cp.sc))) aG ?_
 refine dO ?_
 refine qE ?_
 refine Bs ?_
 refine rA ?_ (x := lF jF)
 refine Lv ?_
 refine sO [(0, _), (1, _), (4, _), (5, _)] [(999, (184, _ ++ ([val _, nv _ (sl _ _), val _, nv _ (val _)] ++ _)))] ?_
 refine oq ?_
 refine Bs ?_
 refine rA ?_ (x := lF gG)
 refine rA ?_ (x := fD (o := 3) (ag := false) (vs := [val _]) (by omega) au (by exact tI) (by exact rfl) (by exact nl rfl))
 refine sO [(0, _), (1, _), (4, _), (5, _)] [(999, (184, _ ++ ([val _, nv _ (sl _ _), val _, val _] ++ _)))] ?_
 refine fU ?_
 refine qf (d := 999) (by exact rfl) (by exact (aN.same (aN.nv (aN.same (aN.same aN.nil))))) ?_
 refine sO [(0, _), (1, _), (4, _), (5, _)] [(999, (184, _ ++ ([val _, sl _ _, val _, val _] ++ _)))] ?_
 refine fU ?_
 refine nx (i + 1) (by omega) (e := (by exact aI (by exact bh (by rw [eE hlt]; rfl)) (aI (by exact rfl) tI))) (f := (by exact aI (by exact congrArg (fun z => some (184, z)) (nN hlt rfl)) tI))
 have hend : i = x.length := by omega
 refine bV (d := 999) (by exact rfl) (pj hend) ?_
 refine ph (s := 0) (D := 999) (e := 4) (by exact rfl) (by exact rfl) (by rw [aq, gP, aq]) (by intro c hc; obtain ⟨y, _, rfl⟩ := List.mem_map.1 hc; exact rfl) hjk ?_
 exact pn
def YZ {x : List (List aU)} {k : Int} (h0k : 0 ≤ k) (hbk : (aj cw x k).2 ≤ 4611686018427387904) : jp prog 221 false [sl bo (x.map (aC aS aa))] [sl bo ((aj cw x k).1.map (aC aS aa))] [(false, [val (vI k)])] (vI (aj cw x k).2) := by
 refine lK func221 rfl (nl rfl) (jS (an.cons (bor_val _) an.nil) jR) ?_
 intro us h0 w0 Fz0 hus
 obtain ⟨u0, rfl⟩ := nQ hus
 by_cases hx : x = []
 subst hx
 refine oD ?_
 rintro _ _
 refine mU ?_
 refine rA ?_ (x := lN di)
 exact nX
 refine nK (s := 0) (D := 999) (E := 139) (e := 1) (u := u0) (es := x.map (aC aS aa)) (L := dD) (by exact rfl) (by simpa using hx) (by exact rfl) (by exact rfl) (fun x hx => hx.elim) (by exact aI (.inl rfl) (aI (.inr (RV.lcl_sv (ai.cons lcl_val ai.nil))) tI)) tI (ai.map fun x => (ai.cons (lcl_own (ai.map fun x => (ai.cons lcl_val (ai.cons (lcl_own (ai.map fun x => (ai.cons lcl_val ai.nil))) (ai.cons lcl_val (ai.cons lcl_val ai.nil)))))) ai.nil)) fun cp jk hl0 hcp hjk => ?_
 have hlm : (x.map (aC aS aa)).length = x.length := aq _
 rw [hlm] at hl0 hcp
 have hmono := iA oL x
 have hmono0 := fun i => bp oL (x.take i) k
 refine oE ?_
 refine sL [0, 4] [] (fun i : Nat => i ≤ x.length) (fun i : Nat => [(1, RV.int (aj cw (x.take i) k).2), (5, RV.int (i : Int))]) (fun i : Nat => [(999, (139, (((aj cw (x.take i) k).1 ++ x.drop i).map (aC aS aa)).flatten ++ jk.map val))]) (fun i : Nat => x.length - i) 0 (by omega) (by exact aI (by exact rfl) (aI (by exact rfl) tI)) (by exact aI (by exact congrArg (fun z => some (139, z)) nP) tI) ?_
 rintro i hi
 refine oF ?_
 refine rA ?_ (x := nG (by decide) di)
 refine rA ?_ (x := cu)
 refine sc (fun hba => ?_) (fun hba => ?_)
 have hlt : i < x.length := by omega
 have hk0 := hmono0 i
 have hk1 := hmono (i + 1) k
 rw [eE hlt] at hk1
 dsimp only at hk1
 have hm0 := bp rc x[i] (aj cw (x.take i) k).2
 simp only [cw] at hk1
 refine bV (d := 999) (by exact rfl) (nM hlt) ?_
 have hA := nO (f := cw) (c := (aC aS aa)) (e := 1) (k := k) (fun _ => rfl) (Nat.le_of_lt hlt)
 refine nI (d := 999) (ms := [sl _ _]) (by exact rfl) fun us hus => ?_
 obtain ⟨v0, rfl⟩ := uL hus
 refine bB ?_
 refine sO [(0, _), (1, _), (4, _), (5, _)] [(999, (139, _ ++ ([nv _ (sl _ _)] ++ _)))] ?_
 refine jq ?_
 refine aO (by exact ⟨rfl, ⟨⟩⟩) (by exact tI) (ay.of rfl (be (.inl rfl) (by decide) (by exact Cp.nm Cp.hdr))) aG ?_
 refine aO (by exact ⟨rfl, ⟨⟩⟩) (by exact tI) (ay.of rfl (be (.inl rfl) (by decide) (by exact Cp.sc))) aG ?_
 refine aO (by exact ⟨rfl, rfl, ⟨⟩⟩) (by exact tI) (ay.of rfl (dN (by decide) di (by exact tI) (by exact rfl) (by omega))) aG ?_
 refine aO (by exact ⟨rfl, ⟨⟩⟩) (by exact ⟨rfl, ⟨⟩⟩) (ay.of rfl (fR (o := 0) (qs := [val _]) (by omega) (by decide) gx (fun _ => rfl) (by exact nl rfl) (by exact (am.cons cN am.nil)) (by exact (an.cons (bor_val _) an.nil)))) aG ?_
 refine aO (by exact ⟨rfl, ⟨⟩⟩) (by exact tI) (ay.of rfl (be (.inl rfl) (by decide) (by exact Cp.sc))) aG ?_
 refine ff (l := [(0, RV.nm _ (RV.hdr 999 _ _)), (1, RV.sv false [val _]), (4, RV.sv false [val _]), (5, RV.sv false [val _]), (12, RV.hdr 999 _ _), (13, RV.sv false [val _]), (14, RV.ptr 999 _), (15, RV.sv false [val _]), (16, RV.sv false [val _])]) (b := [(999, (139, _ ++ ([nv _ (sl _ _)] ++ _)))]) (by exact ⟨rfl, rfl, rfl, rfl, rfl, rfl, rfl, rfl, rfl, ⟨⟩⟩) (by exact ⟨rfl, ⟨⟩⟩) ?_
 refine iP (bx := 999) (L := dD) (pre := []) (ms := [nv _ (sl _ _)]) (post := []) (qr := [(false, [val _])]) (as_ := [(false, [val _])]) (by decide) UG rfl (by exact rfl) (by exact (Nm.val Nm.nil)) (by exact ⟨rfl, ⟨⟩⟩) (by exact (aI (by exact tI) tI)) (by exact aI (aI rfl (ap am.nil)) tI) (by exact rfl) (by exact (Nm.nv Nm.nil)) (by exact (aN.nv aN.nil)) (by exact YY (by omega) (by omega)) (by exact (bA.nv bA.nil)) (fun x hx => hx.elim) (by exact lc) (by exact (aI (.inl rfl) tI)) (by exact lc) (by exact ai.nil) (by exact ai.nil) (by exact lc) rfl ?_
 refine aO (by exact ⟨rfl, ⟨⟩⟩) (by exact tI) (ay.of rfl (be (.inr rfl) (by decide) (by exact Cp.sc))) aG ?_
 refine dO ?_
 refine qf (d := 999) (by exact rfl) (by exact (aN.nv aN.nil)) ?_
 refine sO [(0, _), (1, _), (4, _), (5, _)] [(999, (139, _ ++ ([sl _ _] ++ _)))] ?_
 refine fU ?_
 refine nx (i + 1) (by omega) (e := (by exact aI (by exact bh (by rw [eE hlt]; rfl)) (aI (by exact rfl) tI))) (f := (by exact aI (by exact congrArg (fun z => some (139, z)) (nN hlt rfl)) tI))
 exact Gi
def Za {x : List cC} {k : Int} (h0k : 0 ≤ k) (hbk : (aj kI x k).2 ≤ 4611686018427387904) : jp prog 51 false [sl (.own 58 13) (x.map (hP aw aa aa))] [sl (.own 58 13) ((aj kI x k).1.map (hP aw aa aa))] [(false, [val (vI k)])] (vI (aj kI x k).2) := by
 refine lK func51 rfl (nl rfl) (jS (an.cons (bor_val _) an.nil) jR) ?_
 intro us h0 w0 Fz0 hus
 obtain ⟨u0, rfl⟩ := nQ hus
 by_cases hx : x = []
 subst hx
 refine oD ?_
 rintro _ _
 refine mU ?_
 refine rA ?_ (x := lN ia)
 exact nX
 refine nK (s := 0) (D := 999) (E := 58) (e := 13) (u := u0) (es := x.map (hP aw aa aa)) (L := dD) (by exact rfl) (by simpa using hx) (by exact rfl) (by exact rfl) (fun x hx => hx.elim) (by exact aI (.inl rfl) (aI (.inr (RV.lcl_sv (ai.cons lcl_val ai.nil))) tI)) tI (ai.map fun x => (ai.cons lcl_val (ai.cons lcl_val (ai.cons lcl_val (ai.cons (lcl_own (ai.map fun x => (ai.cons lcl_val (ai.cons lcl_val (ai.cons lcl_val ai.nil))))) (ai.cons (lcl_own (ai.map fun x => (ai.cons lcl_val ai.nil))) (ai.cons lcl_val (ai.cons lcl_val (ai.cons lcl_val (ai.cons lcl_val (ai.cons (lcl_own (ai.map fun x => (ai.cons lcl_val ai.nil))) (ai.cons lcl_val (ai.cons lcl_val (ai.cons lcl_val ai.nil)))))))))))))) fun cp jk hl0 hcp hjk => ?_
 have hlm : (x.map (hP aw aa aa)).length = x.length := aq _
 rw [hlm] at hl0 hcp
 have hmono := iA Cw x
 have hmono0 := fun i => bp Cw (x.take i) k
 refine oE ?_
 refine sL [0, 4] [] (fun i : Nat => i ≤ x.length) (fun i : Nat => [(1, RV.int (aj kI (x.take i) k).2), (5, RV.int (i : Int))]) (fun i : Nat => [(999, (58, (((aj kI (x.take i) k).1 ++ x.drop i).map (hP aw aa aa)).flatten ++ jk.map val))]) (fun i : Nat => x.length - i) 0 (by omega) (by exact aI (by exact rfl) (aI (by exact rfl) tI)) (by exact aI (by exact congrArg (fun z => some (58, z)) nP) tI) ?_
 rintro i hi
 refine oF ?_
 refine rA ?_ (x := nG (by decide) ia)
 refine rA ?_ (x := cu)
 refine sc (fun hba => ?_) (fun hba => ?_)
 have hlt : i < x.length := by omega
 have hk0 := hmono0 i
 have hk1 := hmono (i + 1) k
 rw [eE hlt] at hk1
 dsimp only at hk1
 have hm0 := bp lb x[i].acv.acw ((((aj kI (x.take i) k).2 + 1) + 1) + 1)
 have hm1 := bp dy x[i].acv.Out (aj bz x[i].acv.acw ((((aj kI (x.take i) k).2 + 1) + 1) + 1)).2
 have hm2 := bp dy x[i].acx.Row.Values (((((aj aR x[i].acv.Out (aj bz x[i].acv.acw ((((aj kI (x.take i) k).2 + 1) + 1) + 1)).2).2 + 1) + 1) + 1) + 1)
 simp only [kI] at hk1
 refine bV (d := 999) (by exact rfl) (nM hlt) ?_
 have hA := nO (f := kI) (c := (hP aw aa aa)) (e := 13) (k := k) (fun _ => rfl) (Nat.le_of_lt hlt)
 refine nI (d := 999) (ms := [val _, val _, val _, sl _ _, sl _ _, val _, val _, val _, val _, sl _ _, val _, val _, val _]) (by exact rfl) fun us hus => ?_
 obtain ⟨v0, v1, v2, v3, v4, v5, v6, v7, v8, v9, v10, v11, v12, rfl⟩ := Sm hus
 refine cO ?_
 refine sO [(0, _), (1, _), (4, _), (5, _)] [(999, (58, _ ++ ([nv _ (val _), nv _ (val _), nv _ (val _), nv _ (sl _ _), nv _ (sl _ _), nv _ (val _), nv _ (val _), nv _ (val _), nv _ (val _), nv _ (sl _ _), nv _ (val _), nv _ (val _), nv _ (val _)] ++ _)))] ?_
 refine pG ?_
 refine wx ?_
 refine rA ?_ (x := lF uP)
 refine qB ?_
 refine sO [(0, _), (1, _), (4, _), (5, _)] [(999, (58, _ ++ ([val _, nv _ (val _), nv _ (val _), nv _ (sl _ _), nv _ (sl _ _), nv _ (val _), nv _ (val _), nv _ (val _), nv _ (val _), nv _ (sl _ _), nv _ (val _), nv _ (val _), nv _ (val _)] ++ _)))] ?_
 refine qU ?_
 refine rA ?_ (x := lF ta)
 refine rA ?_ (x := lF fx)
 refine uh ?_
 refine sO [(0, _), (1, _), (4, _), (5, _)] [(999, (58, _ ++ ([val _, val _, nv _ (val _), nv _ (sl _ _), nv _ (sl _ _), nv _ (val _), nv _ (val _), nv _ (val _), nv _ (val _), nv _ (sl _ _), nv _ (val _), nv _ (val _), nv _ (val _)] ++ _)))] ?_
 refine qU ?_
 refine rA ?_ (x := lF ta)
 refine rA ?_ (x := lF iY)
 refine Lv ?_
 refine sO [(0, _), (1, _), (4, _), (5, _)] [(999, (58, _ ++ ([val _, val _, val _, nv _ (sl _ _), nv _ (sl _ _), nv _ (val _), nv _ (val _), nv _ (val _), nv _ (val _), nv _ (sl _ _), nv _ (val _), nv _ (val _), nv _ (val _)] ++ _)))] ?_
 refine qT ?_
 refine aO (by exact ⟨rfl, ⟨⟩⟩) (by exact tI) (ay.of rfl (be (.inl rfl) (by decide) (by exact Cp.nm Cp.hdr))) aG ?_
 refine aO (by exact ⟨rfl, ⟨⟩⟩) (by exact tI) (ay.of rfl (be (.inl rfl) (by decide) (by exact Cp.sc))) aG ?_
 refine aO (by exact ⟨rfl, rfl, ⟨⟩⟩) (by exact tI) (ay.of rfl (dN (by decide) ia (by exact tI) (by exact rfl) (by omega))) aG ?_
 refine aO (by exact ⟨rfl, ⟨⟩⟩) (by exact tI) (ay.of rfl (eh (by decide) ta)) aG ?_
 refine aO (by exact ⟨rfl, ⟨⟩⟩) (by exact tI) (ay.of rfl (eh (by decide) jH)) aG ?_
 refine aO (by exact ⟨rfl, ⟨⟩⟩) (by exact ⟨rfl, ⟨⟩⟩) (ay.of rfl (fR (o := 3) (qs := [val _]) (by omega) (by decide) jI (fun _ => rfl) (by exact nl rfl) (by exact (am.cons cN am.nil)) (by exact (an.cons (bor_val _) an.nil)))) aG ?_
 refine aO (by exact ⟨rfl, ⟨⟩⟩) (by exact tI) (ay.of rfl (be (.inl rfl) (by decide) (by exact Cp.sc))) aG ?_
 refine ff (l := [(0, RV.nm _ (RV.hdr 999 _ _)), (1, RV.sv false [val _]), (4, RV.sv false [val _]), (5, RV.sv false [val _]), (35, RV.hdr 999 _ _), (36, RV.sv false [val _]), (37, RV.ptr 999 _), (38, RV.ptr 999 _), (39, RV.ptr 999 _), (40, RV.sv false [val _]), (41, RV.sv false [val _])]) (b := [(999, (58, _ ++ ([val _, val _, val _, nv _ (sl _ _), nv _ (sl _ _), nv _ (val _), nv _ (val _), nv _ (val _), nv _ (val _), nv _ (sl _ _), nv _ (val _), nv _ (val _), nv _ (val _)] ++ _)))]) (by exact ⟨rfl, rfl, rfl, rfl, rfl, rfl, rfl, rfl, rfl, rfl, rfl, ⟨⟩⟩) (by exact ⟨rfl, ⟨⟩⟩) ?_
 refine iP (bx := 999) (L := dD) (pre := [val _, val _, val _]) (ms := [nv _ (sl _ _)]) (post := [nv _ (sl _ _), nv _ (val _), nv _ (val _), nv _ (val _), nv _ (val _), nv _ (sl _ _), nv _ (val _), nv _ (val _), nv _ (val _)]) (qr := [(false, [val _])]) (as_ := [(false, [val _])]) (by decide) CD rfl (by exact rfl) (by exact (Nm.val Nm.nil)) (by exact ⟨rfl, ⟨⟩⟩) (by exact (aI (by exact tI) tI)) (by exact aI (aI rfl (ap am.nil)) tI) (by exact rfl) (by exact (Nm.nv Nm.nil)) (by exact (aN.nv aN.nil)) (by exact De (by omega) (by omega)) (by exact (bA.nv bA.nil)) (fun x hx => hx.elim) (by exact lc) (by exact (aI (.inl rfl) tI)) (by exact lc) (by exact lc) (by exact lc) (by exact lc) rfl ?_
 refine aO (by exact ⟨rfl, ⟨⟩⟩) (by exact tI) (ay.of rfl (be (.inr rfl) (by decide) (by exact Cp.sc))) aG ?_
 refine dO ?_
 refine aP ?_
 refine oh ?_
 refine aO (by exact ⟨rfl, ⟨⟩⟩) (by exact tI) (ay.of rfl (be (.inl rfl) (by decide) (by exact Cp.nm Cp.hdr))) aG ?_
 refine aO (by exact ⟨rfl, ⟨⟩⟩) (by exact tI) (ay.of rfl (be (.inl rfl) (by decide) (by exact Cp.sc))) aG ?_
 refine aO (by exact ⟨rfl, rfl, ⟨⟩⟩) (by exact tI) (ay.of rfl (dN (by decide) ia (by exact tI) (by exact rfl) (by omega))) aG ?_
 refine aO (by exact ⟨rfl, ⟨⟩⟩) (by exact tI) (ay.of rfl (eh (by decide) ta)) aG ?_
 refine aO (by exact ⟨rfl, ⟨⟩⟩) (by exact tI) (ay.of rfl (eh (by decide) ki)) aG ?_
 refine aO (by exact ⟨rfl, ⟨⟩⟩) (by exact ⟨rfl, ⟨⟩⟩) (ay.of rfl (fR (o := 4) (qs := [val _]) (by omega) (by decide) bv (fun _ => rfl) (by exact nl rfl) (by exact (am.cons cN am.nil)) (by exact (an.cons (bor_val _) an.nil)))) aG ?_
 refine aO (by exact ⟨rfl, ⟨⟩⟩) (by exact tI) (ay.of rfl (be (.inl rfl) (by decide) (by exact Cp.sc))) aG ?_
 refine ff (l := [(0, RV.nm _ (RV.hdr 999 _ _)), (1, RV.sv false [val _]), (4, RV.sv false [val _]), (5, RV.sv false [val _]), (43, RV.hdr 999 _ _), (44, RV.sv false [val _]), (45, RV.ptr 999 _), (46, RV.ptr 999 _), (47, RV.ptr 999 _), (48, RV.sv false [val _]), (49, RV.sv false [val _])]) (b := [(999, (58, _ ++ ([val _, val _, val _, nv _ (sl _ _), nv _ (sl _ _), nv _ (val _), nv _ (val _), nv _ (val _), nv _ (val _), nv _ (sl _ _), nv _ (val _), nv _ (val _), nv _ (val _)] ++ _)))]) (by exact ⟨rfl, rfl, rfl, rfl, rfl, rfl, rfl, rfl, rfl, rfl, rfl, ⟨⟩⟩) (by exact ⟨rfl, ⟨⟩⟩) ?_
 refine iP (bx := 999) (L := dD) (pre := [val _, val _, val _, nv _ (sl _ _)]) (ms := [nv _ (sl _ _)]) (post := [nv _ (val _), nv _ (val _), nv _ (val _), nv _ (val _), nv _ (sl _ _), nv _ (val _), nv _ (val _), nv _ (val _)]) (qr := [(false, [val _])]) (as_ := [(false, [val _])]) (by decide) me rfl (by exact rfl) (by exact (Nm.val Nm.nil)) (by exact ⟨rfl, ⟨⟩⟩) (by exact (aI (by exact tI) tI)) (by exact aI (aI rfl (ap am.nil)) tI) (by exact rfl) (by exact (Nm.nv Nm.nil)) (by exact (aN.nv aN.nil)) (by exact my (by omega) (by omega)) (by exact (bA.nv bA.nil)) (fun x hx => hx.elim) (by exact lc) (by exact (aI (.inl rfl) tI)) (by exact lc) (by exact lc) (by exact lc) (by exact lc) rfl ?_
 refine aO (by exact ⟨rfl, ⟨⟩⟩) (by exact tI) (ay.of rfl (be (.inr rfl) (by decide) (by exact Cp.sc))) aG ?_
 refine dO ?_
 refine qE ?_
 refine wx ?_
 refine rA ?_ (x := lF pR)
 refine Lx ?_
 refine sO [(0, _), (1, _), (4, _), (5, _)] [(999, (58, _ ++ ([val _, val _, val _, nv _ (sl _ _), nv _ (sl _ _), val _, nv _ (val _), nv _ (val _), nv _ (val _), nv _ (sl _ _), nv _ (val _), nv _ (val _), nv _ (val _)] ++ _)))] ?_
 refine qU ?_
 refine rA ?_ (x := lF ml)
 refine Ly ?_
 refine sO [(0, _), (1, _), (4, _), (5, _)] [(999, (58, _ ++ ([val _, val _, val _, nv _ (sl _ _), nv _ (sl _ _), val _, val _, nv _ (val _), nv _ (val _), nv _ (sl _ _), nv _ (val _), nv _ (val _), nv _ (val _)] ++ _)))] ?_
 refine qU ?_
 refine rA ?_ (x := lF mm)
 refine rA ?_ (x := lF lj)
 refine Lz ?_
 refine sO [(0, _), (1, _), (4, _), (5, _)] [(999, (58, _ ++ ([val _, val _, val _, nv _ (sl _ _), nv _ (sl _ _), val _, val _, val _, nv _ (val _), nv _ (sl _ _), nv _ (val _), nv _ (val _), nv _ (val _)] ++ _)))] ?_
 refine qU ?_
 refine rA ?_ (x := lF mm)
 refine si ?_
 refine LA ?_
 refine sO [(0, _), (1, _), (4, _), (5, _)] [(999, (58, _ ++ ([val _, val _, val _, nv _ (sl _ _), nv _ (sl _ _), val _, val _, val _, val _, nv _ (sl _ _), nv _ (val _), nv _ (val _), nv _ (val _)] ++ _)))] ?_
 refine qT ?_
 refine aO (by exact ⟨rfl, ⟨⟩⟩) (by exact tI) (ay.of rfl (be (.inl rfl) (by decide) (by exact Cp.nm Cp.hdr))) aG ?_
 refine aO (by exact ⟨rfl, ⟨⟩⟩) (by exact tI) (ay.of rfl (be (.inl rfl) (by decide) (by exact Cp.sc))) aG ?_
 refine aO (by exact ⟨rfl, rfl, ⟨⟩⟩) (by exact tI) (ay.of rfl (dN (by decide) ia (by exact tI) (by exact rfl) (by omega))) aG ?_
 refine aO (by exact ⟨rfl, ⟨⟩⟩) (by exact tI) (ay.of rfl (eh (by decide) mm)) aG ?_
 refine aO (by exact ⟨rfl, ⟨⟩⟩) (by exact tI) (ay.of rfl (eh (by decide) hZ)) aG ?_
 refine aO (by exact ⟨rfl, ⟨⟩⟩) (by exact tI) (ay.of rfl (eh (by decide) iw)) aG ?_
 refine aO (by exact ⟨rfl, ⟨⟩⟩) (by exact ⟨rfl, ⟨⟩⟩) (ay.of rfl (fR (o := 9) (qs := [val _]) (by omega) (by decide) bv (fun _ => rfl) (by exact nl rfl) (by exact (am.cons cN am.nil)) (by exact (an.cons (bor_val _) an.nil)))) aG ?_
 refine aO (by exact ⟨rfl, ⟨⟩⟩) (by exact tI) (ay.of rfl (be (.inl rfl) (by decide) (by exact Cp.sc))) aG ?_
 refine ff (l := [(0, RV.nm _ (RV.hdr 999 _ _)), (1, RV.sv false [val _]), (4, RV.sv false [val _]), (5, RV.sv false [val _]), (82, RV.hdr 999 _ _), (83, RV.sv false [val _]), (84, RV.ptr 999 _), (85, RV.ptr 999 _), (86, RV.ptr 999 _), (87, RV.ptr 999 _), (88, RV.sv false [val _]), (89, RV.sv false [val _])]) (b := [(999, (58, _ ++ ([val _, val _, val _, nv _ (sl _ _), nv _ (sl _ _), val _, val _, val _, val _, nv _ (sl _ _), nv _ (val _), nv _ (val _), nv _ (val _)] ++ _)))]) (by exact ⟨rfl, rfl, rfl, rfl, rfl, rfl, rfl, rfl, rfl, rfl, rfl, rfl, ⟨⟩⟩) (by exact ⟨rfl, ⟨⟩⟩) ?_
 refine iP (bx := 999) (L := dD) (pre := [val _, val _, val _, nv _ (sl _ _), nv _ (sl _ _), val _, val _, val _, val _]) (ms := [nv _ (sl _ _)]) (post := [nv _ (val _), nv _ (val _), nv _ (val _)]) (qr := [(false, [val _])]) (as_ := [(false, [val _])]) (by decide) me rfl (by exact rfl) (by exact (Nm.val Nm.nil)) (by exact ⟨rfl, ⟨⟩⟩) (by exact (aI (by exact tI) tI)) (by exact aI (aI rfl (ap am.nil)) tI) (by exact rfl) (by exact (Nm.nv Nm.nil)) (by exact (aN.nv aN.nil)) (by exact my (by omega) (by omega)) (by exact (bA.nv bA.nil)) (fun x hx => hx.elim) (by exact lc) (by exact (aI (.inl rfl) tI)) (by exact lc) (by exact lc) (by exact lc) (by exact lc) rfl ?_
 refine aO (by exact ⟨rfl, ⟨⟩⟩) (by exact tI) (ay.of rfl (be (.inr rfl) (by decide) (by exact Cp.sc))) aG ?_
 refine dO ?_
 refine qE ?_
 refine wx ?_
 refine rA ?_ (x := lF mm)
 refine rA ?_ (x := lF mj)
 refine rA ?_ (x := fD (o := 10) (ag := false) (vs := [val _]) (by omega) au (by exact tI) (by exact rfl) (by exact nl rfl))
 refine aP ?_
 refine sO [(0, _), (1, _), (4, _), (5, _)] [(999, (58, _ ++ ([val _, val _, val _, nv _ (sl _ _), nv _ (sl _ _), val _, val _, val _, val _, nv _ (sl _ _), val _, nv _ (val _), nv _ (val _)] ++ _)))] ?_
 refine qU ?_
 refine rA ?_ (x := lF mm)
 refine rA ?_ (x := lF nc)
 refine rA ?_ (x := fD (o := 11) (ag := false) (vs := [val _]) (by omega) au (by exact tI) (by exact rfl) (by exact nl rfl))
 refine aP ?_
 refine sO [(0, _), (1, _), (4, _), (5, _)] [(999, (58, _ ++ ([val _, val _, val _, nv _ (sl _ _), nv _ (sl _ _), val _, val _, val _, val _, nv _ (sl _ _), val _, val _, nv _ (val _)] ++ _)))] ?_
 refine qU ?_
 refine rA ?_ (x := lF nd)
 refine rA ?_ (x := fD (o := 12) (ag := false) (vs := [val _]) (by omega) au (by exact tI) (by exact rfl) (by exact nl rfl))
 refine sO [(0, _), (1, _), (4, _), (5, _)] [(999, (58, _ ++ ([val _, val _, val _, nv _ (sl _ _), nv _ (sl _ _), val _, val _, val _, val _, nv _ (sl _ _), val _, val _, val _] ++ _)))] ?_
 refine fU ?_
 refine qf (d := 999) (by exact rfl) (by exact (aN.same (aN.same (aN.same (aN.nv (aN.nv (aN.same (aN.same (aN.same (aN.same (aN.nv (aN.same (aN.same (aN.same aN.nil)))))))))))))) ?_
 refine sO [(0, _), (1, _), (4, _), (5, _)] [(999, (58, _ ++ ([val _, val _, val _, sl _ _, sl _ _, val _, val _, val _, val _, sl _ _, val _, val _, val _] ++ _)))] ?_
 refine fU ?_
 refine nx (i + 1) (by omega) (e := (by exact aI (by exact bh (by rw [eE hlt]; rfl)) (aI (by exact rfl) tI))) (f := (by exact aI (by exact congrArg (fun z => some (58, z)) (nN hlt rfl)) tI))
 have hend : i = x.length := by omega
 refine bV (d := 999) (by exact rfl) (pj hend) ?_
 refine ph (s := 0) (D := 999) (e := 13) (by exact rfl) (by exact rfl) (by rw [aq, gP, aq]) (by intro c hc; obtain ⟨y, _, rfl⟩ := List.mem_map.1 hc; exact rfl) hjk ?_
 exact pn
def Zb {x : Store} {k : Int} (h0k : 0 ≤ k) (hbk : (gu x k).2 ≤ 4611686018427387904) : jp prog 129 true (Cs bo aS aa x) (Cs bo aS aa (gu x k).1) [(false, [val (vI k)])] (vI (gu x k).2) := by
 refine lK func129 rfl (nl rfl) (jS (an.cons (bor_val _) an.nil) jR) ?_
 intro us h0 w0 Fz0 hus
 obtain ⟨v0, v1, rfl⟩ := Cn hus
 simp only [gu] at hbk
 have hm0 := bp oL x.act k
 refine sS [0, 1] [] ?_
 refine rX ?_ (x := (dG (ag := true) (cs := [nv _ (sl _ _), nv _ (val _)]) (by decide) (by exact tI)))
 refine fh ?_
 refine sO [(1, _), (2, _), (4, _)] [(2, (26, [nv _ (sl _ _), nv _ (val _)]))] ?_
 refine jq ?_
 refine aO (by exact ⟨rfl, ⟨⟩⟩) (by exact tI) (ay.of rfl (eh (by decide) kf)) aG ?_
 refine aO (by exact ⟨rfl, ⟨⟩⟩) (by exact ⟨rfl, ⟨⟩⟩) (ay.of rfl (eW (qs := [val _]) (by decide) ko (fun _ => rfl) (by exact nl rfl) (by exact (am.cons cN am.nil)) (by exact (an.cons (bor_val _) an.nil)))) aG ?_
 refine aO (by exact ⟨rfl, ⟨⟩⟩) (by exact tI) (ay.of rfl (be (.inl rfl) (by decide) (by exact Cp.sc))) aG ?_
 refine ff (l := [(1, RV.sv false [val _]), (2, RV.ptr 2 0), (4, RV.sv false [val _]), (5, RV.ptr 2 0), (6, RV.sv false [val _]), (7, RV.sv false [val _])]) (b := [(2, (26, [nv _ (sl _ _), nv _ (val _)]))]) (by exact ⟨rfl, rfl, rfl, rfl, rfl, rfl, ⟨⟩⟩) (by exact ⟨rfl, ⟨⟩⟩) ?_
 refine nL (bx := 2) (L := dD) (A := []) (ms := [nv _ (sl _ _)]) (B := [nv _ (val _)]) (qr := [(false, [val _])]) (as_ := [(false, [val _])]) (by decide) Us rfl (by exact rfl) (by exact (Nm.val Nm.nil)) (by exact ⟨rfl, ⟨⟩⟩) (by exact (aI (by exact tI) tI)) (by exact aI (aI rfl (ap am.nil)) tI) (by exact rfl) (by exact (Nm.nv Nm.nil)) (by exact (aN.nv aN.nil)) (by exact YZ (by omega) (by omega)) (by exact (bA.nv bA.nil)) (fun x hx => hx.elim) (by exact lc) (by exact (aI (.inl rfl) tI)) (by exact ai.nil) (by exact lc) rfl ?_
 refine aO (by exact ⟨rfl, ⟨⟩⟩) (by exact tI) (ay.of rfl (be (.inr rfl) (by decide) (by exact Cp.sc))) aG ?_
 refine dO ?_
 refine sS [1, 2, 4] [2] ?_
 refine lS ?_
 exact aI (by exact rfl) (bu _ (aI (.inr (bu 2 (bu _ (by exact rfl)))) (aI (by exact (Nm.nv (Nm.nv Nm.nil))) (by exact (aN.nv (aN.nv aN.nil))))))
def Zc {x : List acu} {k : Int} (h0k : 0 ≤ k) (hbk : (aj dh x k).2 ≤ 4611686018427387904) : jp prog 131 false [sl bS (x.map (aQ aw aa aa az aa))] [sl bS ((aj dh x k).1.map (aQ aw aa aa az aa))] [(false, [val (vI k)])] (vI (aj dh x k).2) := by
 refine lK func131 rfl (nl rfl) (jS (an.cons (bor_val _) an.nil) jR) ?_
 intro us h0 w0 Fz0 hus
 obtain ⟨u0, rfl⟩ := nQ hus
 by_cases hx : x = []
 subst hx
 refine oD ?_
 rintro _ _
 refine mU ?_
 refine rA ?_ (x := lN bL)
 exact nX
 refine nK (s := 0) (D := 999) (E := 108) (e := 10) (u := u0) (es := x.map (aQ aw aa aa az aa)) (L := dD) (by exact rfl) (by simpa using hx) (by exact rfl) (by exact rfl) (fun x hx => hx.elim) (by exact aI (.inl rfl) (aI (.inr (RV.lcl_sv (ai.cons lcl_val ai.nil))) tI)) tI (ai.map fun x => (ai.cons lcl_val (ai.cons lcl_val (ai.cons (lcl_own (ai.map fun x => (ai.cons lcl_val (ai.cons lcl_val (ai.cons lcl_val ai.nil))))) (ai.cons (lcl_own (ai.map fun x => (ai.cons lcl_val ai.nil))) (ai.cons lcl_val (ai.cons (lcl_own (ai.map fun x => (ai.cons lcl_val ai.nil))) (ai.cons lcl_val (ai.cons lcl_val (ai.cons lcl_val (ai.cons (lcl_own (ai.map fun x => (ai.cons lcl_val (ai.cons (lcl_own (ai.map fun x => (ai.cons lcl_val ai.nil))) ai.nil)))) ai.nil))))))))))) fun cp jk hl0 hcp hjk => ?_
 have hlm : (x.map (aQ aw aa aa az aa)).length = x.length := aq _
 rw [hlm] at hl0 hcp
 have hmono := iA re x
 have hmono0 := fun i => bp re (x.take i) k
 refine oE ?_
 refine sL [0, 4] [] (fun i : Nat => i ≤ x.length) (fun i : Nat => [(1, RV.int (aj dh (x.take i) k).2), (5, RV.int (i : Int))]) (fun i : Nat => [(999, (108, (((aj dh (x.take i) k).1 ++ x.drop i).map (aQ aw aa aa az aa)).flatten ++ jk.map val))]) (fun i : Nat => x.length - i) 0 (by omega) (by exact aI (by exact rfl) (aI (by exact rfl) tI)) (by exact aI (by exact congrArg (fun z => some (108, z)) nP) tI) ?_
 rintro i hi
 refine oF ?_
 refine rA ?_ (x := nG (by decide) bL)
 refine rA ?_ (x := cu)
 refine sc (fun hba => ?_) (fun hba => ?_)
 have hlt : i < x.length := by omega
 have hk0 := hmono0 i
 have hk1 := hmono (i + 1) k
 rw [eE hlt] at hk1
 dsimp only at hk1
 have hm0 := bp lb x[i].acv.acw (((aj dh (x.take i) k).2 + 1) + 1)
 have hm1 := bp dy x[i].acv.Out (aj bz x[i].acv.acw (((aj dh (x.take i) k).2 + 1) + 1)).2
 have hm2 := bp dy x[i].acD ((aj aR x[i].acv.Out (aj bz x[i].acv.acw (((aj dh (x.take i) k).2 + 1) + 1)).2).2 + 1)
 have hm3 := bp mX x[i].Rows ((((aj aR x[i].acD ((aj aR x[i].acv.Out (aj bz x[i].acv.acw (((aj dh (x.take i) k).2 + 1) + 1)).2).2 + 1)).2 + 1) + 1) + 1)
 simp only [dh] at hk1
 refine bV (d := 999) (by exact rfl) (nM hlt) ?_
 have hA := nO (f := dh) (c := (aQ aw aa aa az aa)) (e := 10) (k := k) (fun _ => rfl) (Nat.le_of_lt hlt)
 refine nI (d := 999) (ms := [val _, val _, sl _ _, sl _ _, val _, sl _ _, val _, val _, val _, sl _ _]) (by exact rfl) fun us hus => ?_
 obtain ⟨v0, v1, v2, v3, v4, v5, v6, v7, v8, v9, rfl⟩ := Co hus
 refine cO ?_
 refine sO [(0, _), (1, _), (4, _), (5, _)] [(999, (108, _ ++ ([nv _ (val _), nv _ (val _), nv _ (sl _ _), nv _ (sl _ _), nv _ (val _), nv _ (sl _ _), nv _ (val _), nv _ (val _), nv _ (val _), nv _ (sl _ _)] ++ _)))] ?_
 refine pG ?_
 refine sf ?_
 refine rA ?_ (x := lF fw)
 refine rA ?_ (x := lF fx)
 refine qB ?_
 refine sO [(0, _), (1, _), (4, _), (5, _)] [(999, (108, _ ++ ([val _, nv _ (val _), nv _ (sl _ _), nv _ (sl _ _), nv _ (val _), nv _ (sl _ _), nv _ (val _), nv _ (val _), nv _ (val _), nv _ (sl _ _)] ++ _)))] ?_
 refine oq ?_
 refine sf ?_
 refine rA ?_ (x := lF fw)
 refine rA ?_ (x := lF iY)
 refine uh ?_
 refine sO [(0, _), (1, _), (4, _), (5, _)] [(999, (108, _ ++ ([val _, val _, nv _ (sl _ _), nv _ (sl _ _), nv _ (val _), nv _ (sl _ _), nv _ (val _), nv _ (val _), nv _ (val _), nv _ (sl _ _)] ++ _)))] ?_
 refine qT ?_
 refine aO (by exact ⟨rfl, ⟨⟩⟩) (by exact tI) (ay.of rfl (be (.inl rfl) (by decide) (by exact Cp.nm Cp.hdr))) aG ?_
 refine aO (by exact ⟨rfl, ⟨⟩⟩) (by exact tI) (ay.of rfl (be (.inl rfl) (by decide) (by exact Cp.sc))) aG ?_
 refine aO (by exact ⟨rfl, rfl, ⟨⟩⟩) (by exact tI) (ay.of rfl (dN (by decide) bL (by exact tI) (by exact rfl) (by omega))) aG ?_
 refine aO (by exact ⟨rfl, ⟨⟩⟩) (by exact tI) (ay.of rfl (eh (by decide) fw)) aG ?_
 refine aO (by exact ⟨rfl, ⟨⟩⟩) (by exact tI) (ay.of rfl (eh (by decide) jH)) aG ?_
 refine aO (by exact ⟨rfl, ⟨⟩⟩) (by exact ⟨rfl, ⟨⟩⟩) (ay.of rfl (fR (o := 2) (qs := [val _]) (by omega) (by decide) jI (fun _ => rfl) (by exact nl rfl) (by exact (am.cons cN am.nil)) (by exact (an.cons (bor_val _) an.nil)))) aG ?_
 refine aO (by exact ⟨rfl, ⟨⟩⟩) (by exact tI) (ay.of rfl (be (.inl rfl) (by decide) (by exact Cp.sc))) aG ?_
 refine ff (l := [(0, RV.nm _ (RV.hdr 999 _ _)), (1, RV.sv false [val _]), (4, RV.sv false [val _]), (5, RV.sv false [val _]), (28, RV.hdr 999 _ _), (29, RV.sv false [val _]), (30, RV.ptr 999 _), (31, RV.ptr 999 _), (32, RV.ptr 999 _), (33, RV.sv false [val _]), (34, RV.sv false [val _])]) (b := [(999, (108, _ ++ ([val _, val _, nv _ (sl _ _), nv _ (sl _ _), nv _ (val _), nv _ (sl _ _), nv _ (val _), nv _ (val _), nv _ (val _), nv _ (sl _ _)] ++ _)))]) (by exact ⟨rfl, rfl, rfl, rfl, rfl, rfl, rfl, rfl, rfl, rfl, rfl, ⟨⟩⟩) (by exact ⟨rfl, ⟨⟩⟩) ?_
 refine iP (bx := 999) (L := dD) (pre := [val _, val _]) (ms := [nv _ (sl _ _)]) (post := [nv _ (sl _ _), nv _ (val _), nv _ (sl _ _), nv _ (val _), nv _ (val _), nv _ (val _), nv _ (sl _ _)]) (qr := [(false, [val _])]) (as_ := [(false, [val _])]) (by decide) CD rfl (by exact rfl) (by exact (Nm.val Nm.nil)) (by exact ⟨rfl, ⟨⟩⟩) (by exact (aI (by exact tI) tI)) (by exact aI (aI rfl (ap am.nil)) tI) (by exact rfl) (by exact (Nm.nv Nm.nil)) (by exact (aN.nv aN.nil)) (by exact De (by omega) (by omega)) (by exact (bA.nv bA.nil)) (fun x hx => hx.elim) (by exact lc) (by exact (aI (.inl rfl) tI)) (by exact lc) (by exact lc) (by exact lc) (by exact lc) rfl ?_
 refine aO (by exact ⟨rfl, ⟨⟩⟩) (by exact tI) (ay.of rfl (be (.inr rfl) (by decide) (by exact Cp.sc))) aG ?_
 refine dO ?_
 refine aP ?_
 refine oh ?_
 refine aO (by exact ⟨rfl, ⟨⟩⟩) (by exact tI) (ay.of rfl (be (.inl rfl) (by decide) (by exact Cp.nm Cp.hdr))) aG ?_
 refine aO (by exact ⟨rfl, ⟨⟩⟩) (by exact tI) (ay.of rfl (be (.inl rfl) (by decide) (by exact Cp.sc))) aG ?_
 refine aO (by exact ⟨rfl, rfl, ⟨⟩⟩) (by exact tI) (ay.of rfl (dN (by decide) bL (by exact tI) (by exact rfl) (by omega))) aG ?_
 refine aO (by exact ⟨rfl, ⟨⟩⟩) (by exact tI) (ay.of rfl (eh (by decide) fw)) aG ?_
 refine aO (by exact ⟨rfl, ⟨⟩⟩) (by exact tI) (ay.of rfl (eh (by decide) ki)) aG ?_
 refine aO (by exact ⟨rfl, ⟨⟩⟩) (by exact ⟨rfl, ⟨⟩⟩) (ay.of rfl (fR (o := 3) (qs := [val _]) (by omega) (by decide) bv (fun _ => rfl) (by exact nl rfl) (by exact (am.cons cN am.nil)) (by exact (an.cons (bor_val _) an.nil)))) aG ?_
 refine aO (by exact ⟨rfl, ⟨⟩⟩) (by exact tI) (ay.of rfl (be (.inl rfl) (by decide) (by exact Cp.sc))) aG ?_
 refine ff (l := [(0, RV.nm _ (RV.hdr 999 _ _)), (1, RV.sv false [val _]), (4, RV.sv false [val _]), (5, RV.sv false [val _]), (36, RV.hdr 999 _ _), (37, RV.sv false [val _]), (38, RV.ptr 999 _), (39, RV.ptr 999 _), (40, RV.ptr 999 _), (41, RV.sv false [val _]), (42, RV.sv false [val _])]) (b := [(999, (108, _ ++ ([val _, val _, nv _ (sl _ _), nv _ (sl _ _), nv _ (val _), nv _ (sl _ _), nv _ (val _), nv _ (val _), nv _ (val _), nv _ (sl _ _)] ++ _)))]) (by exact ⟨rfl, rfl, rfl, rfl, rfl, rfl, rfl, rfl, rfl, rfl, rfl, ⟨⟩⟩) (by exact ⟨rfl, ⟨⟩⟩) ?_
 refine iP (bx := 999) (L := dD) (pre := [val _, val _, nv _ (sl _ _)]) (ms := [nv _ (sl _ _)]) (post := [nv _ (val _), nv _ (sl _ _), nv _ (val _), nv _ (val _), nv _ (val _), nv _ (sl _ _)]) (qr := [(false, [val _])]) (as_ := [(false, [val _])]) (by decide) me rfl (by exact rfl) (by exact (Nm.val Nm.nil)) (by exact ⟨rfl, ⟨⟩⟩) (by exact (aI (by exact tI) tI)) (by exact aI (aI rfl (ap am.nil)) tI) (by exact rfl) (by exact (Nm.nv Nm.nil)) (by exact (aN.nv aN.nil)) (by exact my (by omega) (by omega)) (by exact (bA.nv bA.nil)) (fun x hx => hx.elim) (by exact lc) (by exact (aI (.inl rfl) tI)) (by exact lc) (by exact lc) (by exact lc) (by exact lc) rfl ?_
 refine aO (by exact ⟨rfl, ⟨⟩⟩) (by exact tI) (ay.of rfl (be (.inr rfl) (by decide) (by exact Cp.sc))) aG ?_
 refine dO ?_
 refine qE ?_
 refine sf ?_
 refine rA ?_ (x := lF mZ)
 refine LB ?_
 refine sO [(0, _), (1, _), (4, _), (5, _)] [(999, (108, _ ++ ([val _, val _, nv _ (sl _ _), nv _ (sl _ _), val _, nv _ (sl _ _), nv _ (val _), nv _ (val _), nv _ (val _), nv _ (sl _ _)] ++ _)))] ?_
 refine qT ?_
 refine aO (by exact ⟨rfl, ⟨⟩⟩) (by exact tI) (ay.of rfl (be (.inl rfl) (by decide) (by exact Cp.nm Cp.hdr))) aG ?_
 refine aO (by exact ⟨rfl, ⟨⟩⟩) (by exact tI) (ay.of rfl (be (.inl rfl) (by decide) (by exact Cp.sc))) aG ?_
 refine aO (by exact ⟨rfl, rfl, ⟨⟩⟩) (by exact tI) (ay.of rfl (dN (by decide) bL (by exact tI) (by exact rfl) (by omega))) aG ?_
 refine aO (by exact ⟨rfl, ⟨⟩⟩) (by exact tI) (ay.of rfl (eh (by decide) hR)) aG ?_
 refine aO (by exact ⟨rfl, ⟨⟩⟩) (by exact ⟨rfl, ⟨⟩⟩) (ay.of rfl (fR (o := 5) (qs := [val _]) (by omega) (by decide) bv (fun _ => rfl) (by exact nl rfl) (by exact (am.cons cN am.nil)) (by exact (an.cons (bor_val _) an.nil)))) aG ?_
 refine aO (by exact ⟨rfl, ⟨⟩⟩) (by exact tI) (ay.of rfl (be (.inl rfl) (by decide) (by exact Cp.sc))) aG ?_
 refine ff (l := [(0, RV.nm _ (RV.hdr 999 _ _)), (1, RV.sv false [val _]), (4, RV.sv false [val _]), (5, RV.sv false [val _]), (51, RV.hdr 999 _ _), (52, RV.sv false [val _]), (53, RV.ptr 999 _), (54, RV.ptr 999 _), (55, RV.sv false [val _]), (56, RV.sv false [val _])]) (b := [(999, (108, _ ++ ([val _, val _, nv _ (sl _ _), nv _ (sl _ _), val _, nv _ (sl _ _), nv _ (val _), nv _ (val _), nv _ (val _), nv _ (sl _ _)] ++ _)))]) (by exact ⟨rfl, rfl, rfl, rfl, rfl, rfl, rfl, rfl, rfl, rfl, ⟨⟩⟩) (by exact ⟨rfl, ⟨⟩⟩) ?_
 refine iP (bx := 999) (L := dD) (pre := [val _, val _, nv _ (sl _ _), nv _ (sl _ _), val _]) (ms := [nv _ (sl _ _)]) (post := [nv _ (val _), nv _ (val _), nv _ (val _), nv _ (sl _ _)]) (qr := [(false, [val _])]) (as_ := [(false, [val _])]) (by decide) me rfl (by exact rfl) (by exact (Nm.val Nm.nil)) (by exact ⟨rfl, ⟨⟩⟩) (by exact (aI (by exact tI) tI)) (by exact aI (aI rfl (ap am.nil)) tI) (by exact rfl) (by exact (Nm.nv Nm.nil)) (by exact (aN.nv aN.nil)) (by exact my (by omega) (by omega)) (by exact (bA.nv bA.nil)) (fun x hx => hx.elim) (by exact lc) (by exact (aI (.inl rfl) tI)) (by exact lc) (by exact lc) (by exact lc) (by exact lc) rfl ?_
 refine aO (by exact ⟨rfl, ⟨⟩⟩) (by exact tI) (ay.of rfl (be (.inr rfl) (by decide) (by exact Cp.sc))) aG ?_
 refine dO ?_
 refine qE ?_
 refine sf ?_
 refine rA ?_ (x := lF mf)
 refine Ly ?_
 refine sO [(0, _), (1, _), (4, _), (5, _)] [(999, (108, _ ++ ([val _, val _, nv _ (sl _ _), nv _ (sl _ _), val _, nv _ (sl _ _), val _, nv _ (val _), nv _ (val _), nv _ (sl _ _)] ++ _)))] ?_
 refine oq ?_
 refine sf ?_
 refine rA ?_ (x := lF kc)
 refine Lz ?_
 refine sO [(0, _), (1, _), (4, _), (5, _)] [(999, (108, _ ++ ([val _, val _, nv _ (sl _ _), nv _ (sl _ _), val _, nv _ (sl _ _), val _, val _, nv _ (val _), nv _ (sl _ _)] ++ _)))] ?_
 refine oq ?_
 refine sf ?_
 refine rA ?_ (x := lF mg)
 refine LA ?_
 refine sO [(0, _), (1, _), (4, _), (5, _)] [(999, (108, _ ++ ([val _, val _, nv _ (sl _ _), nv _ (sl _ _), val _, nv _ (sl _ _), val _, val _, val _, nv _ (sl _ _)] ++ _)))] ?_
 refine fU ?_
 refine oh ?_
 refine aO (by exact ⟨rfl, ⟨⟩⟩) (by exact tI) (ay.of rfl (be (.inl rfl) (by decide) (by exact Cp.nm Cp.hdr))) aG ?_
 refine aO (by exact ⟨rfl, ⟨⟩⟩) (by exact tI) (ay.of rfl (be (.inl rfl) (by decide) (by exact Cp.sc))) aG ?_
 refine aO (by exact ⟨rfl, rfl, ⟨⟩⟩) (by exact tI) (ay.of rfl (dN (by decide) bL (by exact tI) (by exact rfl) (by omega))) aG ?_
 refine aO (by exact ⟨rfl, ⟨⟩⟩) (by exact tI) (ay.of rfl (eh (by decide) kd)) aG ?_
 refine aO (by exact ⟨rfl, ⟨⟩⟩) (by exact ⟨rfl, ⟨⟩⟩) (ay.of rfl (fR (o := 9) (qs := [val _]) (by omega) (by decide) gy (fun _ => rfl) (by exact nl rfl) (by exact (am.cons cN am.nil)) (by exact (an.cons (bor_val _) an.nil)))) aG ?_
 refine aO (by exact ⟨rfl, ⟨⟩⟩) (by exact tI) (ay.of rfl (be (.inl rfl) (by decide) (by exact Cp.sc))) aG ?_
 refine ff (l := [(0, RV.nm _ (RV.hdr 999 _ _)), (1, RV.sv false [val _]), (4, RV.sv false [val _]), (5, RV.sv false [val _]), (79, RV.hdr 999 _ _), (80, RV.sv false [val _]), (81, RV.ptr 999 _), (82, RV.ptr 999 _), (83, RV.sv false [val _]), (84, RV.sv false [val _])]) (b := [(999, (108, _ ++ ([val _, val _, nv _ (sl _ _), nv _ (sl _ _), val _, nv _ (sl _ _), val _, val _, val _, nv _ (sl _ _)] ++ _)))]) (by exact ⟨rfl, rfl, rfl, rfl, rfl, rfl, rfl, rfl, rfl, rfl, ⟨⟩⟩) (by exact ⟨rfl, ⟨⟩⟩) ?_
 refine iP (bx := 999) (L := dD) (pre := [val _, val _, nv _ (sl _ _), nv _ (sl _ _), val _, nv _ (sl _ _), val _, val _, val _]) (ms := [nv _ (sl _ _)]) (post := []) (qr := [(false, [val _])]) (as_ := [(false, [val _])]) (by decide) Nd rfl (by exact rfl) (by exact (Nm.val Nm.nil)) (by exact ⟨rfl, ⟨⟩⟩) (by exact (aI (by exact tI) tI)) (by exact aI (aI rfl (ap am.nil)) tI) (by exact rfl) (by exact (Nm.nv Nm.nil)) (by exact (aN.nv aN.nil)) (by exact OW (by omega) (by omega)) (by exact (bA.nv bA.nil)) (fun x hx => hx.elim) (by exact lc) (by exact (aI (.inl rfl) tI)) (by exact lc) (by exact lc) (by exact ai.nil) (by exact lc) rfl ?_
 refine aO (by exact ⟨rfl, ⟨⟩⟩) (by exact tI) (ay.of rfl (be (.inr rfl) (by decide) (by exact Cp.sc))) aG ?_
 refine dO ?_
 refine qf (d := 999) (by exact rfl) (by exact (aN.same (aN.same (aN.nv (aN.nv (aN.same (aN.nv (aN.same (aN.same (aN.same (aN.nv aN.nil))))))))))) ?_
 refine sO [(0, _), (1, _), (4, _), (5, _)] [(999, (108, _ ++ ([val _, val _, sl _ _, sl _ _, val _, sl _ _, val _, val _, val _, sl _ _] ++ _)))] ?_
 refine fU ?_
 refine nx (i + 1) (by omega) (e := (by exact aI (by exact bh (by rw [eE hlt]; rfl)) (aI (by exact rfl) tI))) (f := (by exact aI (by exact congrArg (fun z => some (108, z)) (nN hlt rfl)) tI))
 have hend : i = x.length := by omega
 refine bV (d := 999) (by exact rfl) (pj hend) ?_
 refine ph (s := 0) (D := 999) (e := 10) (by exact rfl) (by exact rfl) (by rw [aq, gP, aq]) (by intro c hc; obtain ⟨y, _, rfl⟩ := List.mem_map.1 hc; exact rfl) hjk ?_
 exact pn
def Zd {x : List cI} {k : Int} (h0k : 0 ≤ k) (hbk : (aj ej x k).2 ≤ 4611686018427387904) : jp prog 132 false [sl bJ (x.map (aX aw aa az aa))] [sl bJ ((aj ej x k).1.map (aX aw aa az aa))] [(false, [val (vI k)])] (vI (aj ej x k).2) := by
 refine lK func132 rfl (nl rfl) (jS (an.cons (bor_val _) an.nil) jR) ?_
 intro us h0 w0 Fz0 hus
 obtain ⟨u0, rfl⟩ := nQ hus
 by_cases hx : x = []
 subst hx
 refine oD ?_
 rintro _ _
 refine mU ?_
 refine rA ?_ (x := lN fb)
 exact nX
 refine nK (s := 0) (D := 999) (E := 63) (e := 7) (u := u0) (es := x.map (aX aw aa az aa)) (L := dD) (by exact rfl) (by simpa using hx) (by exact rfl) (by exact rfl) (fun x hx => hx.elim) (by exact aI (.inl rfl) (aI (.inr (RV.lcl_sv (ai.cons lcl_val ai.nil))) tI)) tI (ai.map fun x => (ai.cons lcl_val (ai.cons lcl_val (ai.cons (lcl_own (ai.map fun x => (ai.cons lcl_val (ai.cons lcl_val (ai.cons lcl_val ai.nil))))) (ai.cons (lcl_own (ai.map fun x => (ai.cons lcl_val ai.nil))) (ai.cons lcl_val (ai.cons lcl_val (ai.cons (lcl_own (ai.map fun x => (ai.cons lcl_val (ai.cons (lcl_own (ai.map fun x => (ai.cons lcl_val ai.nil))) ai.nil)))) ai.nil)))))))) fun cp jk hl0 hcp hjk => ?_
 have hlm : (x.map (aX aw aa az aa)).length = x.length := aq _
 rw [hlm] at hl0 hcp
 have hmono := iA rf x
 have hmono0 := fun i => bp rf (x.take i) k
 refine oE ?_
 refine sL [0, 4] [] (fun i : Nat => i ≤ x.length) (fun i : Nat => [(1, RV.int (aj ej (x.take i) k).2), (5, RV.int (i : Int))]) (fun i : Nat => [(999, (63, (((aj ej (x.take i) k).1 ++ x.drop i).map (aX aw aa az aa)).flatten ++ jk.map val))]) (fun i : Nat => x.length - i) 0 (by omega) (by exact aI (by exact rfl) (aI (by exact rfl) tI)) (by exact aI (by exact congrArg (fun z => some (63, z)) nP) tI) ?_
 rintro i hi
 refine oF ?_
 refine rA ?_ (x := nG (by decide) fb)
 refine rA ?_ (x := cu)
 refine sc (fun hba => ?_) (fun hba => ?_)
 have hlt : i < x.length := by omega
 have hk0 := hmono0 i
 have hk1 := hmono (i + 1) k
 rw [eE hlt] at hk1
 dsimp only at hk1
 have hm0 := bp lb x[i].acv.acw (((aj ej (x.take i) k).2 + 1) + 1)
 have hm1 := bp dy x[i].acv.Out (aj bz x[i].acv.acw (((aj ej (x.take i) k).2 + 1) + 1)).2
 have hm2 := bp mX x[i].Rows (((aj aR x[i].acv.Out (aj bz x[i].acv.acw (((aj ej (x.take i) k).2 + 1) + 1)).2).2 + 1) + 1)
 simp only [ej] at hk1
 refine bV (d := 999) (by exact rfl) (nM hlt) ?_
 have hA := nO (f := ej) (c := (aX aw aa az aa)) (e := 7) (k := k) (fun _ => rfl) (Nat.le_of_lt hlt)
 refine nI (d := 999) (ms := [val _, val _, sl _ _, sl _ _, val _, val _, sl _ _]) (by exact rfl) fun us hus => ?_
 obtain ⟨v0, v1, v2, v3, v4, v5, v6, rfl⟩ := Sl hus
 refine cO ?_
 refine sO [(0, _), (1, _), (4, _), (5, _)] [(999, (63, _ ++ ([nv _ (val _), nv _ (val _), nv _ (sl _ _), nv _ (sl _ _), nv _ (val _), nv _ (val _), nv _ (sl _ _)] ++ _)))] ?_
 refine pG ?_
 refine xe ?_
 refine rA ?_ (x := lF ne)
 refine rA ?_ (x := lF fx)
 refine qB ?_
 refine sO [(0, _), (1, _), (4, _), (5, _)] [(999, (63, _ ++ ([val _, nv _ (val _), nv _ (sl _ _), nv _ (sl _ _), nv _ (val _), nv _ (val _), nv _ (sl _ _)] ++ _)))] ?_
 refine oq ?_
 refine xe ?_
 refine rA ?_ (x := lF ne)
 refine rA ?_ (x := lF iY)
 refine uh ?_
 refine sO [(0, _), (1, _), (4, _), (5, _)] [(999, (63, _ ++ ([val _, val _, nv _ (sl _ _), nv _ (sl _ _), nv _ (val _), nv _ (val _), nv _ (sl _ _)] ++ _)))] ?_
 refine qT ?_
 refine aO (by exact ⟨rfl, ⟨⟩⟩) (by exact tI) (ay.of rfl (be (.inl rfl) (by decide) (by exact Cp.nm Cp.hdr))) aG ?_
 refine aO (by exact ⟨rfl, ⟨⟩⟩) (by exact tI) (ay.of rfl (be (.inl rfl) (by decide) (by exact Cp.sc))) aG ?_
 refine aO (by exact ⟨rfl, rfl, ⟨⟩⟩) (by exact tI) (ay.of rfl (dN (by decide) fb (by exact tI) (by exact rfl) (by omega))) aG ?_
 refine aO (by exact ⟨rfl, ⟨⟩⟩) (by exact tI) (ay.of rfl (eh (by decide) ne)) aG ?_
 refine aO (by exact ⟨rfl, ⟨⟩⟩) (by exact tI) (ay.of rfl (eh (by decide) jH)) aG ?_
 refine aO (by exact ⟨rfl, ⟨⟩⟩) (by exact ⟨rfl, ⟨⟩⟩) (ay.of rfl (fR (o := 2) (qs := [val _]) (by omega) (by decide) jI (fun _ => rfl) (by exact nl rfl) (by exact (am.cons cN am.nil)) (by exact (an.cons (bor_val _) an.nil)))) aG ?_
 refine aO (by exact ⟨rfl, ⟨⟩⟩) (by exact tI) (ay.of rfl (be (.inl rfl) (by decide) (by exact Cp.sc))) aG ?_
 refine ff (l := [(0, RV.nm _ (RV.hdr 999 _ _)), (1, RV.sv false [val _]), (4, RV.sv false [val _]), (5, RV.sv false [val _]), (28, RV.hdr 999 _ _), (29, RV.sv false [val _]), (30, RV.ptr 999 _), (31, RV.ptr 999 _), (32, RV.ptr 999 _), (33, RV.sv false [val _]), (34, RV.sv false [val _])]) (b := [(999, (63, _ ++ ([val _, val _, nv _ (sl _ _), nv _ (sl _ _), nv _ (val _), nv _ (val _), nv _ (sl _ _)] ++ _)))]) (by exact ⟨rfl, rfl, rfl, rfl, rfl, rfl, rfl, rfl, rfl, rfl, rfl, ⟨⟩⟩) (by exact ⟨rfl, ⟨⟩⟩) ?_
 refine iP (bx := 999) (L := dD) (pre := [val _, val _]) (ms := [nv _ (sl _ _)]) (post := [nv _ (sl _ _), nv _ (val _), nv _ (val _), nv _ (sl _ _)]) (qr := [(false, [val _])]) (as_ := [(false, [val _])]) (by decide) CD rfl (by exact rfl) (by exact (Nm.val Nm.nil)) (by exact ⟨rfl, ⟨⟩⟩) (by exact (aI (by exact tI) tI)) (by exact aI (aI rfl (ap am.nil)) tI) (by exact rfl) (by exact (Nm.nv Nm.nil)) (by exact (aN.nv aN.nil)) (by exact De (by omega) (by omega)) (by exact (bA.nv bA.nil)) (fun x hx => hx.elim) (by exact lc) (by exact (aI (.inl rfl) tI)) (by exact lc) (by exact lc) (by exact lc) (by exact lc) rfl ?_
 refine aO (by exact ⟨rfl, ⟨⟩⟩) (by exact tI) (ay.of rfl (be (.inr rfl) (by decide) (by exact Cp.sc))) aG ?_
 refine dO ?_
 refine aP ?_
 refine oh ?_
 refine aO (by exact ⟨rfl, ⟨⟩⟩) (by exact tI) (ay.of rfl (be (.inl rfl) (by decide) (by exact Cp.nm Cp.hdr))) aG ?_
 refine aO (by exact ⟨rfl, ⟨⟩⟩) (by exact tI) (ay.of rfl (be (.inl rfl) (by decide) (by exact Cp.sc))) aG ?_
 refine aO (by exact ⟨rfl, rfl, ⟨⟩⟩) (by exact tI) (ay.of rfl (dN (by decide) fb (by exact tI) (by exact rfl) (by omega))) aG ?_
 refine aO (by exact ⟨rfl, ⟨⟩⟩) (by exact tI) (ay.of rfl (eh (by decide) ne)) aG ?_
 refine aO (by exact ⟨rfl, ⟨⟩⟩) (by exact tI) (ay.of rfl (eh (by decide) ki)) aG ?_
 refine aO (by exact ⟨rfl, ⟨⟩⟩) (by exact ⟨rfl, ⟨⟩⟩) (ay.of rfl (fR (o := 3) (qs := [val _]) (by omega) (by decide) bv (fun _ => rfl) (by exact nl rfl) (by exact (am.cons cN am.nil)) (by exact (an.cons (bor_val _) an.nil)))) aG ?_
 refine aO (by exact ⟨rfl, ⟨⟩⟩) (by exact tI) (ay.of rfl (be (.inl rfl) (by decide) (by exact Cp.sc))) aG ?_
 refine ff (l := [(0, RV.nm _ (RV.hdr 999 _ _)), (1, RV.sv false [val _]), (4, RV.sv false [val _]), (5, RV.sv false [val _]), (36, RV.hdr 999 _ _), (37, RV.sv false [val _]), (38, RV.ptr 999 _), (39, RV.ptr 999 _), (40, RV.ptr 999 _), (41, RV.sv false [val _]), (42, RV.sv false [val _])]) (b := [(999, (63, _ ++ ([val _, val _, nv _ (sl _ _), nv _ (sl _ _), nv _ (val _), nv _ (val _), nv _ (sl _ _)] ++ _)))]) (by exact ⟨rfl, rfl, rfl, rfl, rfl, rfl, rfl, rfl, rfl, rfl, rfl, ⟨⟩⟩) (by exact ⟨rfl, ⟨⟩⟩) ?_
 refine iP (bx := 999) (L := dD) (pre := [val _, val _, nv _ (sl _ _)]) (ms := [nv _ (sl _ _)]) (post := [nv _ (val _), nv _ (val _), nv _ (sl _ _)]) (qr := [(false, [val _])]) (as_ := [(false, [val _])]) (by decide) me rfl (by exact rfl) (by exact (Nm.val Nm.nil)) (by exact ⟨rfl, ⟨⟩⟩) (by exact (aI (by exact tI) tI)) (by exact aI (aI rfl (ap am.nil)) tI) (by exact rfl) (by exact (Nm.nv Nm.nil)) (by exact (aN.nv aN.nil)) (by exact my (by omega) (by omega)) (by exact (bA.nv bA.nil)) (fun x hx => hx.elim) (by exact lc) (by exact (aI (.inl rfl) tI)) (by exact lc) (by exact lc) (by exact lc) (by exact lc) rfl ?_
 refine aO (by exact ⟨rfl, ⟨⟩⟩) (by exact tI) (ay.of rfl (be (.inr rfl) (by decide) (by exact Cp.sc))) aG ?_
 refine dO ?_
 refine qE ?_
 refine xe ?_
 refine rA ?_ (x := lF ri)
 refine LB ?_
 refine sO [(0, _), (1, _), (4, _), (5, _)] [(999, (63, _ ++ ([val _, val _, nv _ (sl _ _), nv _ (sl _ _), val _, nv _ (val _), nv _ (sl _ _)] ++ _)))] ?_
 refine oq ?_
 refine xe ?_
 refine rA ?_ (x := lF rj)
 refine Lx ?_
 refine sO [(0, _), (1, _), (4, _), (5, _)] [(999, (63, _ ++ ([val _, val _, nv _ (sl _ _), nv _ (sl _ _), val _, val _, nv _ (sl _ _)] ++ _)))] ?_
 refine fU ?_
 refine oh ?_
 refine aO (by exact ⟨rfl, ⟨⟩⟩) (by exact tI) (ay.of rfl (be (.inl rfl) (by decide) (by exact Cp.nm Cp.hdr))) aG ?_
 refine aO (by exact ⟨rfl, ⟨⟩⟩) (by exact tI) (ay.of rfl (be (.inl rfl) (by decide) (by exact Cp.sc))) aG ?_
 refine aO (by exact ⟨rfl, rfl, ⟨⟩⟩) (by exact tI) (ay.of rfl (dN (by decide) fb (by exact tI) (by exact rfl) (by omega))) aG ?_
 refine aO (by exact ⟨rfl, ⟨⟩⟩) (by exact tI) (ay.of rfl (eh (by decide) nf)) aG ?_
 refine aO (by exact ⟨rfl, ⟨⟩⟩) (by exact ⟨rfl, ⟨⟩⟩) (ay.of rfl (fR (o := 6) (qs := [val _]) (by omega) (by decide) gy (fun _ => rfl) (by exact nl rfl) (by exact (am.cons cN am.nil)) (by exact (an.cons (bor_val _) an.nil)))) aG ?_
 refine aO (by exact ⟨rfl, ⟨⟩⟩) (by exact tI) (ay.of rfl (be (.inl rfl) (by decide) (by exact Cp.sc))) aG ?_
 refine ff (l := [(0, RV.nm _ (RV.hdr 999 _ _)), (1, RV.sv false [val _]), (4, RV.sv false [val _]), (5, RV.sv false [val _]), (58, RV.hdr 999 _ _), (59, RV.sv false [val _]), (60, RV.ptr 999 _), (61, RV.ptr 999 _), (62, RV.sv false [val _]), (63, RV.sv false [val _])]) (b := [(999, (63, _ ++ ([val _, val _, nv _ (sl _ _), nv _ (sl _ _), val _, val _, nv _ (sl _ _)] ++ _)))]) (by exact ⟨rfl, rfl, rfl, rfl, rfl, rfl, rfl, rfl, rfl, rfl, ⟨⟩⟩) (by exact ⟨rfl, ⟨⟩⟩) ?_
 refine iP (bx := 999) (L := dD) (pre := [val _, val _, nv _ (sl _ _), nv _ (sl _ _), val _, val _]) (ms := [nv _ (sl _ _)]) (post := []) (qr := [(false, [val _])]) (as_ := [(false, [val _])]) (by decide) Nd rfl (by exact rfl) (by exact (Nm.val Nm.nil)) (by exact ⟨rfl, ⟨⟩⟩) (by exact (aI (by exact tI) tI)) (by exact aI (aI rfl (ap am.nil)) tI) (by exact rfl) (by exact (Nm.nv Nm.nil)) (by exact (aN.nv aN.nil)) (by exact OW (by omega) (by omega)) (by exact (bA.nv bA.nil)) (fun x hx => hx.elim) (by exact lc) (by exact (aI (.inl rfl) tI)) (by exact lc) (by exact lc) (by exact ai.nil) (by exact lc) rfl ?_
 refine aO (by exact ⟨rfl, ⟨⟩⟩) (by exact tI) (ay.of rfl (be (.inr rfl) (by decide) (by exact Cp.sc))) aG ?_
 refine dO ?_
 refine qf (d := 999) (by exact rfl) (by exact (aN.same (aN.same (aN.nv (aN.nv (aN.same (aN.same (aN.nv aN.nil)))))))) ?_
 refine sO [(0, _), (1, _), (4, _), (5, _)] [(999, (63, _ ++ ([val _, val _, sl _ _, sl _ _, val _, val _, sl _ _] ++ _)))] ?_
 refine fU ?_
 refine nx (i + 1) (by omega) (e := (by exact aI (by exact bh (by rw [eE hlt]; rfl)) (aI (by exact rfl) tI))) (f := (by exact aI (by exact congrArg (fun z => some (63, z)) (nN hlt rfl)) tI))
 have hend : i = x.length := by omega
 refine bV (d := 999) (by exact rfl) (pj hend) ?_
 refine ph (s := 0) (D := 999) (e := 7) (by exact rfl) (by exact rfl) (by rw [aq, gP, aq]) (by intro c hc; obtain ⟨y, _, rfl⟩ := List.mem_map.1 hc; exact rfl) hjk ?_
 exact pn
def OX {x : aD} {k : Int} (h0k : 0 ≤ k) (hbk : (gT x k).2 ≤ 4611686018427387904) : jp prog 43 true (Ct bo aS aa aa bS aw aa aa az aa bJ aw aa az aa bP aa aa aa x) (Ct bo aS aa aa bS aw aa aa az aa bJ aw aa az aa bP aa aa aa (gT x k).1) [(false, [val (vI k)])] (vI (gT x k).2) := by
 refine lK func43 rfl (nl rfl) (jS (an.cons (bor_val _) an.nil) jR) ?_
 intro us h0 w0 Fz0 hus
 obtain ⟨v0, v1, v2, v3, v4, v5, v6, v7, rfl⟩ := xQ hus
 simp only [gT] at hbk
 have hm0 := bp oL x.Store.act k
 have hm1 := bp dy x.Order (aj cw x.Store.act k).2
 have hm2 := bp re x.acu (aj aR x.Order (aj cw x.Store.act k).2).2
 have hm3 := bp rf x.Done (aj dh x.acu (aj aR x.Order (aj cw x.Store.act k).2).2).2
 have hm4 := bp ra x.acG (aj ej x.Done (aj dh x.acu (aj aR x.Order (aj cw x.Store.act k).2).2).2).2
 have hv0 : (gu x.Store k).2 = (aj cw x.Store.act k).2 := rfl
 refine sS [0, 1] [] ?_
 refine rX ?_ (x := (dG (ag := true) (cs := [nv _ (sl _ _), nv _ (val _), nv _ (val _), nv _ (sl _ _), nv _ (sl _ _), nv _ (sl _ _), nv _ (sl _ _), nv _ (val _)]) (by decide) (by exact tI)))
 refine fh ?_
 refine sO [(1, _), (2, _), (4, _)] [(2, (32, [nv _ (sl _ _), nv _ (val _), nv _ (val _), nv _ (sl _ _), nv _ (sl _ _), nv _ (sl _ _), nv _ (sl _ _), nv _ (val _)]))] ?_
 refine jq ?_
 refine aO (by exact ⟨rfl, ⟨⟩⟩) (by exact tI) (ay.of rfl (eh (by decide) hY)) aG ?_
 refine aO (by exact ⟨rfl, ⟨⟩⟩) (by exact ⟨rfl, ⟨⟩⟩) (ay.of rfl (eW (qs := [val _, val _]) (by decide) dV (fun h => nomatch h) (by exact nl rfl) (by exact (am.cons cN (am.cons cN am.nil))) (by exact (an.cons (bor_val _) (an.cons (bor_val _) an.nil))))) aG ?_
 refine aO (by exact ⟨rfl, ⟨⟩⟩) (by exact tI) (ay.of rfl (be (.inl rfl) (by decide) (by exact Cp.sc))) aG ?_
 refine ff (l := [(1, RV.sv false [val _]), (2, RV.ptr 2 0), (4, RV.sv false [val _]), (5, RV.ptr 2 0), (6, RV.sv true [val _, val _]), (7, RV.sv false [val _])]) (b := [(2, (32, [nv _ (sl _ _), nv _ (val _), nv _ (val _), nv _ (sl _ _), nv _ (sl _ _), nv _ (sl _ _), nv _ (sl _ _), nv _ (val _)]))]) (by exact ⟨rfl, rfl, rfl, rfl, rfl, rfl, ⟨⟩⟩) (by exact ⟨rfl, ⟨⟩⟩) ?_
 refine nL (bx := 2) (L := dD) (A := []) (ms := [nv _ (sl _ _), nv _ (val _)]) (B := [nv _ (val _), nv _ (sl _ _), nv _ (sl _ _), nv _ (sl _ _), nv _ (sl _ _), nv _ (val _)]) (qr := [(false, [val _])]) (as_ := [(false, [val _])]) (by decide) TK rfl (by exact rfl) (by exact (Nm.val (Nm.val Nm.nil))) (by exact ⟨rfl, ⟨⟩⟩) (by exact (aI (by exact tI) tI)) (by exact aI (aI rfl (ap am.nil)) tI) (by exact rfl) (by exact (Nm.nv (Nm.nv Nm.nil))) (by exact (aN.nv (aN.nv aN.nil))) (by exact Zb (by first | omega | (simp only [gu]; omega)) (by first | omega | (simp only [gu]; omega))) (by exact (bA.nv (bA.nv bA.nil))) (fun x hx => hx.elim) (by exact lc) (by exact (aI (.inl rfl) tI)) (by exact ai.nil) (by exact lc) rfl ?_
 refine aO (by exact ⟨rfl, ⟨⟩⟩) (by exact tI) (ay.of rfl (be (.inr rfl) (by decide) (by exact Cp.sc))) aG ?_
 refine dO ?_
 refine aP ?_
 refine xD ?_
 refine aO (by exact ⟨rfl, ⟨⟩⟩) (by exact tI) (ay.of rfl (eh (by decide) nb)) aG ?_
 refine aO (by exact ⟨rfl, ⟨⟩⟩) (by exact ⟨rfl, ⟨⟩⟩) (ay.of rfl (eW (qs := [val _]) (by decide) bv (fun _ => rfl) (by exact nl rfl) (by exact (am.cons cN am.nil)) (by exact (an.cons (bor_val _) an.nil)))) aG ?_
 refine aO (by exact ⟨rfl, ⟨⟩⟩) (by exact tI) (ay.of rfl (be (.inl rfl) (by decide) (by exact Cp.sc))) aG ?_
 refine ff (l := [(1, RV.sv false [val _]), (2, RV.ptr 2 0), (4, RV.sv false [val _]), (9, RV.ptr 2 3), (10, RV.sv false [val _]), (11, RV.sv false [val _])]) (b := [(2, (32, [nv _ (sl _ _), nv _ (val _), nv _ (val _), nv _ (sl _ _), nv _ (sl _ _), nv _ (sl _ _), nv _ (sl _ _), nv _ (val _)]))]) (by exact ⟨rfl, rfl, rfl, rfl, rfl, rfl, ⟨⟩⟩) (by exact ⟨rfl, ⟨⟩⟩) ?_
 refine nL (bx := 2) (L := dD) (A := [nv _ (sl _ _), nv _ (val _), nv _ (val _)]) (ms := [nv _ (sl _ _)]) (B := [nv _ (sl _ _), nv _ (sl _ _), nv _ (sl _ _), nv _ (val _)]) (qr := [(false, [val _])]) (as_ := [(false, [val _])]) (by decide) me rfl (by exact rfl) (by exact (Nm.val Nm.nil)) (by exact ⟨rfl, ⟨⟩⟩) (by exact (aI (by exact tI) tI)) (by exact aI (aI rfl (ap am.nil)) tI) (by exact rfl) (by exact (Nm.nv Nm.nil)) (by exact (aN.nv aN.nil)) (by exact my (by first | omega | (simp only [gu]; omega)) (by first | omega | (simp only [gu]; omega))) (by exact (bA.nv bA.nil)) (fun x hx => hx.elim) (by exact lc) (by exact (aI (.inl rfl) tI)) (by exact lc) (by exact lc) rfl ?_
 refine aO (by exact ⟨rfl, ⟨⟩⟩) (by exact tI) (ay.of rfl (be (.inr rfl) (by decide) (by exact Cp.sc))) aG ?_
 refine dO ?_
 refine aP ?_
 refine xD ?_
 refine aO (by exact ⟨rfl, ⟨⟩⟩) (by exact tI) (ay.of rfl (eh (by decide) el)) aG ?_
 refine aO (by exact ⟨rfl, ⟨⟩⟩) (by exact ⟨rfl, ⟨⟩⟩) (ay.of rfl (eW (qs := [val _]) (by decide) ea (fun _ => rfl) (by exact nl rfl) (by exact (am.cons cN am.nil)) (by exact (an.cons (bor_val _) an.nil)))) aG ?_
 refine aO (by exact ⟨rfl, ⟨⟩⟩) (by exact tI) (ay.of rfl (be (.inl rfl) (by decide) (by exact Cp.sc))) aG ?_
 refine ff (l := [(1, RV.sv false [val _]), (2, RV.ptr 2 0), (4, RV.sv false [val _]), (13, RV.ptr 2 4), (14, RV.sv false [val _]), (15, RV.sv false [val _])]) (b := [(2, (32, [nv _ (sl _ _), nv _ (val _), nv _ (val _), nv _ (sl _ _), nv _ (sl _ _), nv _ (sl _ _), nv _ (sl _ _), nv _ (val _)]))]) (by exact ⟨rfl, rfl, rfl, rfl, rfl, rfl, ⟨⟩⟩) (by exact ⟨rfl, ⟨⟩⟩) ?_
 refine nL (bx := 2) (L := dD) (A := [nv _ (sl _ _), nv _ (val _), nv _ (val _), nv _ (sl _ _)]) (ms := [nv _ (sl _ _)]) (B := [nv _ (sl _ _), nv _ (sl _ _), nv _ (val _)]) (qr := [(false, [val _])]) (as_ := [(false, [val _])]) (by decide) TL rfl (by exact rfl) (by exact (Nm.val Nm.nil)) (by exact ⟨rfl, ⟨⟩⟩) (by exact (aI (by exact tI) tI)) (by exact aI (aI rfl (ap am.nil)) tI) (by exact rfl) (by exact (Nm.nv Nm.nil)) (by exact (aN.nv aN.nil)) (by exact Zc (by first | omega | (simp only [gu]; omega)) (by first | omega | (simp only [gu]; omega))) (by exact (bA.nv bA.nil)) (fun x hx => hx.elim) (by exact lc) (by exact (aI (.inl rfl) tI)) (by exact lc) (by exact lc) rfl ?_
 refine aO (by exact ⟨rfl, ⟨⟩⟩) (by exact tI) (ay.of rfl (be (.inr rfl) (by decide) (by exact Cp.sc))) aG ?_
 refine dO ?_
 refine aP ?_
 refine xD ?_
 refine aO (by exact ⟨rfl, ⟨⟩⟩) (by exact tI) (ay.of rfl (eh (by decide) lh)) aG ?_
 refine aO (by exact ⟨rfl, ⟨⟩⟩) (by exact ⟨rfl, ⟨⟩⟩) (ay.of rfl (eW (qs := [val _]) (by decide) lm (fun _ => rfl) (by exact nl rfl) (by exact (am.cons cN am.nil)) (by exact (an.cons (bor_val _) an.nil)))) aG ?_
 refine aO (by exact ⟨rfl, ⟨⟩⟩) (by exact tI) (ay.of rfl (be (.inl rfl) (by decide) (by exact Cp.sc))) aG ?_
 refine ff (l := [(1, RV.sv false [val _]), (2, RV.ptr 2 0), (4, RV.sv false [val _]), (17, RV.ptr 2 5), (18, RV.sv false [val _]), (19, RV.sv false [val _])]) (b := [(2, (32, [nv _ (sl _ _), nv _ (val _), nv _ (val _), nv _ (sl _ _), nv _ (sl _ _), nv _ (sl _ _), nv _ (sl _ _), nv _ (val _)]))]) (by exact ⟨rfl, rfl, rfl, rfl, rfl, rfl, ⟨⟩⟩) (by exact ⟨rfl, ⟨⟩⟩) ?_
 refine nL (bx := 2) (L := dD) (A := [nv _ (sl _ _), nv _ (val _), nv _ (val _), nv _ (sl _ _), nv _ (sl _ _)]) (ms := [nv _ (sl _ _)]) (B := [nv _ (sl _ _), nv _ (val _)]) (qr := [(false, [val _])]) (as_ := [(false, [val _])]) (by decide) TM rfl (by exact rfl) (by exact (Nm.val Nm.nil)) (by exact ⟨rfl, ⟨⟩⟩) (by exact (aI (by exact tI) tI)) (by exact aI (aI rfl (ap am.nil)) tI) (by exact rfl) (by exact (Nm.nv Nm.nil)) (by exact (aN.nv aN.nil)) (by exact Zd (by first | omega | (simp only [gu]; omega)) (by first | omega | (simp only [gu]; omega))) (by exact (bA.nv bA.nil)) (fun x hx => hx.elim) (by exact lc) (by exact (aI (.inl rfl) tI)) (by exact lc) (by exact lc) rfl ?_
 refine aO (by exact ⟨rfl, ⟨⟩⟩) (by exact tI) (ay.of rfl (be (.inr rfl) (by decide) (by exact Cp.sc))) aG ?_
 refine dO ?_
 refine aP ?_
 refine xD ?_
 refine aO (by exact ⟨rfl, ⟨⟩⟩) (by exact tI) (ay.of rfl (eh (by decide) kg)) aG ?_
 refine aO (by exact ⟨rfl, ⟨⟩⟩) (by exact ⟨rfl, ⟨⟩⟩) (ay.of rfl (eW (qs := [val _]) (by decide) kp (fun _ => rfl) (by exact nl rfl) (by exact (am.cons cN am.nil)) (by exact (an.cons (bor_val _) an.nil)))) aG ?_
 refine aO (by exact ⟨rfl, ⟨⟩⟩) (by exact tI) (ay.of rfl (be (.inl rfl) (by decide) (by exact Cp.sc))) aG ?_
 refine ff (l := [(1, RV.sv false [val _]), (2, RV.ptr 2 0), (4, RV.sv false [val _]), (21, RV.ptr 2 6), (22, RV.sv false [val _]), (23, RV.sv false [val _])]) (b := [(2, (32, [nv _ (sl _ _), nv _ (val _), nv _ (val _), nv _ (sl _ _), nv _ (sl _ _), nv _ (sl _ _), nv _ (sl _ _), nv _ (val _)]))]) (by exact ⟨rfl, rfl, rfl, rfl, rfl, rfl, ⟨⟩⟩) (by exact ⟨rfl, ⟨⟩⟩) ?_
 refine nL (bx := 2) (L := dD) (A := [nv _ (sl _ _), nv _ (val _), nv _ (val _), nv _ (sl _ _), nv _ (sl _ _), nv _ (sl _ _)]) (ms := [nv _ (sl _ _)]) (B := [nv _ (val _)]) (qr := [(false, [val _])]) (as_ := [(false, [val _])]) (by decide) TN rfl (by exact rfl) (by exact (Nm.val Nm.nil)) (by exact ⟨rfl, ⟨⟩⟩) (by exact (aI (by exact tI) tI)) (by exact aI (aI rfl (ap am.nil)) tI) (by exact rfl) (by exact (Nm.nv Nm.nil)) (by exact (aN.nv aN.nil)) (by exact YX (by first | omega | (simp only [gu]; omega)) (by first | omega | (simp only [gu]; omega))) (by exact (bA.nv bA.nil)) (fun x hx => hx.elim) (by exact lc) (by exact (aI (.inl rfl) tI)) (by exact lc) (by exact lc) rfl ?_
 refine aO (by exact ⟨rfl, ⟨⟩⟩) (by exact tI) (ay.of rfl (be (.inr rfl) (by decide) (by exact Cp.sc))) aG ?_
 refine dO ?_
 refine sS [1, 2, 4] [2] ?_
 refine lS ?_
 exact aI (by exact rfl) (bu _ (aI (.inr (bu 2 (bu _ (by exact rfl)))) (aI (by exact (Nm.nv (Nm.nv (Nm.nv (Nm.nv (Nm.nv (Nm.nv (Nm.nv (Nm.nv Nm.nil))))))))) (by exact (aN.nv (aN.nv (aN.nv (aN.nv (aN.nv (aN.nv (aN.nv (aN.nv aN.nil))))))))))))
end Go.Proofs.YtmekkgdboplbjaaGreat
