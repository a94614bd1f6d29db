/- What functions of the program compute. No condition. -/
import Derived.Test.YtmekkgdboplbjaaGreatCD0
import Derived.Test.YtmekkgdboplbjaaGreatCF0
set_option linter.all false
namespace Go.Proofs.YtmekkgdboplbjaaGreat
open Go Go.RowKit M PV Tryz
set_option maxRecDepth 10000
attribute [local irreducible] PV.Lcl PV.LclR RV.Lcl
def lb {x : List Int} {k : Int} (h0k : 0 ≤ k) (hbk : (aj aQ x k).2 ≤ 4611686018427387904) : hM prog 130 false [sl aa (x.map ak)] [sl aa ((aj aQ x k).1.map ak)] [(false, [val (vI k)])] (vI (aj aQ x k).2) := by
 refine jg func130 rfl (nl rfl) (hJ (ao.cons (bor_val _) ao.nil) hI) ?_
 intro us h0 w0 Fz0 hus
 obtain ⟨u0, rfl⟩ := nA hus
 by_cases hx : x = []
 subst hx
 refine oa ?_
 rintro _ _
 refine mG ?_
 refine rA ?_ (x := lN bC)
 exact nE
 refine ns (s := 0) (D := 999) (E := 3) (e := 1) (u := u0) (es := x.map ak) (L := da) (by exact rfl) (by simpa using hx) (by exact rfl) (by exact rfl) (fun x hx => hx.elim) (by exact aI (.inl rfl) (aI (.inr (RV.lcl_sv (ai.cons lcl_val ai.nil))) tI)) tI (ai.map fun x => (ai.cons lcl_val ai.nil)) fun cp jk hl0 hcp hjk => ?_
 have hlm : (x.map ak).length = x.length := ar _
 rw [hlm] at hl0 hcp
 have hmono := ip cT x
 have hmono0 := fun i => bm cT (x.take i) k
 refine ob ?_
 refine sL [0, 4] [] (fun i : Nat => i ≤ x.length) (fun i : Nat => [(1, RV.int (aj aQ (x.take i) k).2), (5, RV.int (i : Int))]) (fun i : Nat => [(999, (3, (((aj aQ (x.take i) k).1 ++ x.drop i).map ak).flatten ++ jk.map val))]) (fun i : Nat => x.length - i) 0 (by omega) (by exact aI (by exact rfl) (aI (by exact rfl) tI)) (by exact aI (by exact congrArg (fun z => some (3, z)) nz) tI) ?_
 rintro i hi
 refine od ?_
 refine rA ?_ (x := np (by decide) bC)
 refine rA ?_ (x := cy)
 refine sc (fun hba => ?_) (fun hba => ?_)
 have hlt : i < x.length := by omega
 have hk0 := hmono0 i
 have hk1 := hmono (i + 1) k
 rw [et hlt] at hk1
 dsimp only at hk1
 simp only [aQ] at hk1
 refine bV (d := 999) (by exact rfl) (nu hlt) ?_
 have hA := ny (f := aQ) (c := ak) (e := 1) (k := k) (fun _ => rfl) (Nat.le_of_lt hlt)
 refine cF ?_
 refine sO [(0, _), (1, _), (4, _), (5, _)] [(999, (3, _ ++ ([val _] ++ _)))] ?_
 refine pt ?_
 refine rM ?_
 refine rA ?_ (x := ee (by decide) bC (by exact tI) (by exact rfl) (by omega))
 refine rA ?_ (x := fP (o := 0) (ag := false) (vs := [val _]) (by omega) au (by exact tI) (by exact rfl) (by exact nl rfl))
 refine sO [(0, _), (1, _), (4, _), (5, _)] [(999, (3, _ ++ ([val _] ++ _)))] ?_
 refine eP ?_
 refine sG [0, 1, 4, 5] [999] ?_
 refine cZ ?_
 refine nx (i + 1) (by omega) (e := (by exact aI (by exact bg (by rw [et hlt]; rfl)) (aI (by exact rfl) tI))) (f := (by exact aI (by exact congrArg (fun z => some (3, z)) (nw hlt rfl)) tI))
 exact Dz
def Bc {x : List cS} {k : Int} (h0k : 0 ≤ k) (hbk : (aj bw x k).2 ≤ 4611686018427387904) : hM prog 141 false [sl ay (x.map bf)] [sl ay ((aj bw x k).1.map bf)] [(false, [val (vI k)])] (vI (aj bw x k).2) := by
 refine jg func141 rfl (nl rfl) (hJ (ao.cons (bor_val _) ao.nil) hI) ?_
 intro us h0 w0 Fz0 hus
 obtain ⟨u0, rfl⟩ := nA hus
 by_cases hx : x = []
 subst hx
 refine oa ?_
 rintro _ _
 refine mG ?_
 refine rA ?_ (x := lN dZ)
 exact nE
 refine ns (s := 0) (D := 999) (E := 178) (e := 3) (u := u0) (es := x.map bf) (L := da) (by exact rfl) (by simpa using hx) (by exact rfl) (by exact rfl) (fun x hx => hx.elim) (by exact aI (.inl rfl) (aI (.inr (RV.lcl_sv (ai.cons lcl_val ai.nil))) tI)) tI (ai.map fun x => (ai.cons lcl_val (ai.cons lcl_val (ai.cons lcl_val ai.nil)))) fun cp jk hl0 hcp hjk => ?_
 have hlm : (x.map bf).length = x.length := ar _
 rw [hlm] at hl0 hcp
 have hmono := ip jP x
 have hmono0 := fun i => bm jP (x.take i) k
 refine ob ?_
 refine sL [0, 4] [] (fun i : Nat => i ≤ x.length) (fun i : Nat => [(1, RV.int (aj bw (x.take i) k).2), (5, RV.int (i : Int))]) (fun i : Nat => [(999, (178, (((aj bw (x.take i) k).1 ++ x.drop i).map bf).flatten ++ jk.map val))]) (fun i : Nat => x.length - i) 0 (by omega) (by exact aI (by exact rfl) (aI (by exact rfl) tI)) (by exact aI (by exact congrArg (fun z => some (178, z)) nz) tI) ?_
 rintro i hi
 refine od ?_
 refine rA ?_ (x := np (by decide) dZ)
 refine rA ?_ (x := cy)
 refine sc (fun hba => ?_) (fun hba => ?_)
 have hlt : i < x.length := by omega
 have hk0 := hmono0 i
 have hk1 := hmono (i + 1) k
 rw [et hlt] at hk1
 dsimp only at hk1
 simp only [bw] at hk1
 refine bV (d := 999) (by exact rfl) (nu hlt) ?_
 have hA := ny (f := bw) (c := bf) (e := 3) (k := k) (fun _ => rfl) (Nat.le_of_lt hlt)
 refine cF ?_
 refine sO [(0, _), (1, _), (4, _), (5, _)] [(999, (178, _ ++ ([val _, val _, val _] ++ _)))] ?_
 refine pt ?_
 refine zw ?_
 refine rA ?_ (x := lF kR)
 refine qH ?_
 refine zu ?_
 refine pf ?_
 refine zw ?_
 refine rA ?_ (x := lF om)
 refine uU ?_
 refine zu ?_
 refine pf ?_
 refine zw ?_
 refine rA ?_ (x := lF kS)
 refine rA ?_ (x := fP (o := 2) (ag := false) (vs := [val _]) (by omega) au (by exact tI) (by exact rfl) (by exact nl rfl))
 refine zu ?_
 refine sG [0, 1, 4, 5] [999] ?_
 refine cZ ?_
 refine nx (i + 1) (by omega) (e := (by exact aI (by exact bg (by rw [et hlt]; rfl)) (aI (by exact rfl) tI))) (f := (by exact aI (by exact congrArg (fun z => some (178, z)) (nw hlt rfl)) tI))
 have hend : i = x.length := by omega
 refine bV (d := 999) (by exact rfl) (oE hend) ?_
 refine oD (s := 0) (D := 999) (e := 3) (by exact rfl) (by exact rfl) (by rw [ar, gw, ar]) (by intro c hc; obtain ⟨y, _, rfl⟩ := List.mem_map.1 hc; exact rfl) hjk ?_
 exact oM
def Tq {x : Row} {k : Int} (h0k : 0 ≤ k) (hbk : (pF x k).2 ≤ 4611686018427387904) : hM prog 223 true (bu aa x) (bu aa (pF x k).1) [(false, [val (vI k)])] (vI (pF x k).2) := by
 refine jg func223 rfl (nl rfl) (hJ (ao.cons (bor_val _) ao.nil) hI) ?_
 intro us h0 w0 Fz0 hus
 obtain ⟨v0, v1, rfl⟩ := vY hus
 simp only [pF] at hbk
 have hm0 := bm cT x.Values k
 refine sS [0, 1] [] ?_
 refine rX ?_ (x := (cI (ag := true) (cs := [nv _ (val _), nv _ (sl _ _)]) (by decide) (by exact tI)))
 refine dz ?_
 refine sO [(1, _), (2, _), (4, _)] [(2, (54, [nv _ (val _), nv _ (sl _ _)]))] ?_
 refine gv ?_
 refine aN (by exact ⟨rfl, ⟨⟩⟩) (by exact tI) (ax.of rfl (dQ (by decide) gY)) aH ?_
 refine aN (by exact ⟨rfl, ⟨⟩⟩) (by exact ⟨rfl, ⟨⟩⟩) (ax.of rfl (df (qs := [val _]) (by decide) bq (fun _ => rfl) (by exact nl rfl) (by exact (am.cons bH am.nil)) (by exact (ao.cons (bor_val _) ao.nil)))) aH ?_
 refine aN (by exact ⟨rfl, ⟨⟩⟩) (by exact tI) (ax.of rfl (bc (.inl rfl) (by decide) (by exact Cp.sc))) aH ?_
 refine d3 (l := [(1, RV.sv false [val _]), (2, RV.ptr 2 0), (4, RV.sv false [val _]), (5, RV.ptr 2 1), (6, RV.sv false [val _]), (7, RV.sv false [val _])]) (b := [(2, (54, [nv _ (val _), nv _ (sl _ _)]))]) (by exact ⟨rfl, rfl, rfl, rfl, rfl, rfl, ⟨⟩⟩) (by exact ⟨rfl, ⟨⟩⟩) ?_
 refine io (bx := 2) (L := da) (A := [nv _ (val _)]) (ms := [nv _ (sl _ _)]) (B := []) (qr := [(false, [val _])]) (as_ := [(false, [val _])]) (by decide) kO rfl (by exact rfl) (by exact (Nm.val Nm.nil)) (by exact ⟨rfl, ⟨⟩⟩) (by exact (aI (by exact tI) tI)) (by exact aI (aI rfl (an am.nil)) tI) (by exact rfl) (by exact (Nm.nv Nm.nil)) (by exact (aA.nv aA.nil)) (by exact lb (by omega) (by omega)) (by exact (bb.nv bb.nil)) (fun x hx => hx.elim) (by exact lc) (by exact (aI (.inl rfl) tI)) (by exact lc) (by exact ai.nil) rfl ?_
 exact DA
def Tr {x : List cE} {k : Int} (h0k : 0 ≤ k) (hbk : (aj eI x k).2 ≤ 4611686018427387904) : hM prog 133 false [sl bP (x.map (a7 aa aa aa))] [sl bP ((aj eI x k).1.map (a7 aa aa aa))] [(false, [val (vI k)])] (vI (aj eI x k).2) := by
 refine jg func133 rfl (nl rfl) (hJ (ao.cons (bor_val _) ao.nil) hI) ?_
 intro us h0 w0 Fz0 hus
 obtain ⟨u0, rfl⟩ := nA hus
 by_cases hx : x = []
 subst hx
 refine oa ?_
 rintro _ _
 refine mG ?_
 refine rA ?_ (x := lN dY)
 exact nE
 refine ns (s := 0) (D := 999) (E := 70) (e := 5) (u := u0) (es := x.map (a7 aa aa aa)) (L := da) (by exact rfl) (by simpa using hx) (by exact rfl) (by exact rfl) (fun x hx => hx.elim) (by exact aI (.inl rfl) (aI (.inr (RV.lcl_sv (ai.cons lcl_val ai.nil))) tI)) tI (ai.map fun x => (ai.cons lcl_val (ai.cons lcl_val (ai.cons (lcl_own (ai.map fun x => (ai.cons lcl_val ai.nil))) (ai.cons (lcl_own (ai.map fun x => (ai.cons lcl_val ai.nil))) (ai.cons (lcl_own (ai.map fun x => (ai.cons lcl_val ai.nil))) ai.nil)))))) fun cp jk hl0 hcp hjk => ?_
 have hlm : (x.map (a7 aa aa aa)).length = x.length := ar _
 rw [hlm] at hl0 hcp
 have hmono := ip pG x
 have hmono0 := fun i => bm pG (x.take i) k
 refine ob ?_
 refine sL [0, 4] [] (fun i : Nat => i ≤ x.length) (fun i : Nat => [(1, RV.int (aj eI (x.take i) k).2), (5, RV.int (i : Int))]) (fun i : Nat => [(999, (70, (((aj eI (x.take i) k).1 ++ x.drop i).map (a7 aa aa aa)).flatten ++ jk.map val))]) (fun i : Nat => x.length - i) 0 (by omega) (by exact aI (by exact rfl) (aI (by exact rfl) tI)) (by exact aI (by exact congrArg (fun z => some (70, z)) nz) tI) ?_
 rintro i hi
 refine od ?_
 refine rA ?_ (x := np (by decide) dY)
 refine rA ?_ (x := cy)
 refine sc (fun hba => ?_) (fun hba => ?_)
 have hlt : i < x.length := by omega
 have hk0 := hmono0 i
 have hk1 := hmono (i + 1) k
 rw [et hlt] at hk1
 dsimp only at hk1
 have hm0 := bm cT x[i].Ids (((aj eI (x.take i) k).2 + 1) + 1)
 have hm1 := bm cT x[i].Wy (aj aQ x[i].Ids (((aj eI (x.take i) k).2 + 1) + 1)).2
 have hm2 := bm cT x[i].Rows (aj aQ x[i].Wy (aj aQ x[i].Ids (((aj eI (x.take i) k).2 + 1) + 1)).2).2
 simp only [eI] at hk1
 refine bV (d := 999) (by exact rfl) (nu hlt) ?_
 have hA := ny (f := eI) (c := (a7 aa aa aa)) (e := 5) (k := k) (fun _ => rfl) (Nat.le_of_lt hlt)
 refine md (d := 999) (ms := [val _, val _, sl _ _, sl _ _, sl _ _]) (by exact rfl) fun us hus => ?_
 obtain ⟨v0, v1, v2, v3, v4, rfl⟩ := I2 hus
 refine cF ?_
 refine sO [(0, _), (1, _), (4, _), (5, _)] [(999, (70, _ ++ ([nv _ (val _), nv _ (val _), nv _ (sl _ _), nv _ (sl _ _), nv _ (sl _ _)] ++ _)))] ?_
 refine pt ?_
 refine IV ?_
 refine rA ?_ (x := lF oo)
 refine qH ?_
 refine sO [(0, _), (1, _), (4, _), (5, _)] [(999, (70, _ ++ ([val _, nv _ (val _), nv _ (sl _ _), nv _ (sl _ _), nv _ (sl _ _)] ++ _)))] ?_
 refine pw ?_
 refine IV ?_
 refine rA ?_ (x := lF lW)
 refine uU ?_
 refine sO [(0, _), (1, _), (4, _), (5, _)] [(999, (70, _ ++ ([val _, val _, nv _ (sl _ _), nv _ (sl _ _), nv _ (sl _ _)] ++ _)))] ?_
 refine eP ?_
 refine nX ?_
 refine aN (by exact ⟨rfl, ⟨⟩⟩) (by exact tI) (ax.of rfl (bc (.inl rfl) (by decide) (by exact Cp.nm Cp.hdr))) aH ?_
 refine aN (by exact ⟨rfl, ⟨⟩⟩) (by exact tI) (ax.of rfl (bc (.inl rfl) (by decide) (by exact Cp.sc))) aH ?_
 refine aN (by exact ⟨rfl, rfl, ⟨⟩⟩) (by exact tI) (ax.of rfl (ee (by decide) dY (by exact tI) (by exact rfl) (by omega))) aH ?_
 refine aN (by exact ⟨rfl, ⟨⟩⟩) (by exact tI) (ax.of rfl (dQ (by decide) kU)) aH ?_
 refine aN (by exact ⟨rfl, ⟨⟩⟩) (by exact ⟨rfl, ⟨⟩⟩) (ax.of rfl (fZ (o := 2) (qs := [val _]) (by omega) (by decide) bq (fun _ => rfl) (by exact nl rfl) (by exact (am.cons bH am.nil)) (by exact (ao.cons (bor_val _) ao.nil)))) aH ?_
 refine aN (by exact ⟨rfl, ⟨⟩⟩) (by exact tI) (ax.of rfl (bc (.inl rfl) (by decide) (by exact Cp.sc))) aH ?_
 refine d3 (l := [(0, RV.nm _ (RV.hdr 999 _ _)), (1, RV.sv false [val _]), (4, RV.sv false [val _]), (5, RV.sv false [val _]), (26, RV.hdr 999 _ _), (27, RV.sv false [val _]), (28, RV.ptr 999 _), (29, RV.ptr 999 _), (30, RV.sv false [val _]), (31, RV.sv false [val _])]) (b := [(999, (70, _ ++ ([val _, val _, nv _ (sl _ _), nv _ (sl _ _), nv _ (sl _ _)] ++ _)))]) (by exact ⟨rfl, rfl, rfl, rfl, rfl, rfl, rfl, rfl, rfl, rfl, ⟨⟩⟩) (by exact ⟨rfl, ⟨⟩⟩) ?_
 refine jI (bx := 999) (L := da) (pre := [val _, val _]) (ms := [nv _ (sl _ _)]) (post := [nv _ (sl _ _), nv _ (sl _ _)]) (qr := [(false, [val _])]) (as_ := [(false, [val _])]) (by decide) kO rfl (by exact rfl) (by exact (Nm.val Nm.nil)) (by exact ⟨rfl, ⟨⟩⟩) (by exact (aI (by exact tI) tI)) (by exact aI (aI rfl (an am.nil)) tI) (by exact rfl) (by exact (Nm.nv Nm.nil)) (by exact (aA.nv aA.nil)) (by exact lb (by omega) (by omega)) (by exact (bb.nv bb.nil)) (fun x hx => hx.elim) (by exact lc) (by exact (aI (.inl rfl) tI)) (by exact lc) (by exact lc) (by exact lc) (by exact lc) rfl ?_
 refine aN (by exact ⟨rfl, ⟨⟩⟩) (by exact tI) (ax.of rfl (bc (.inr rfl) (by decide) (by exact Cp.sc))) aH ?_
 refine dg ?_
 refine nX ?_
 refine aN (by exact ⟨rfl, ⟨⟩⟩) (by exact tI) (ax.of rfl (bc (.inl rfl) (by decide) (by exact Cp.nm Cp.hdr))) aH ?_
 refine aN (by exact ⟨rfl, ⟨⟩⟩) (by exact tI) (ax.of rfl (bc (.inl rfl) (by decide) (by exact Cp.sc))) aH ?_
 refine aN (by exact ⟨rfl, rfl, ⟨⟩⟩) (by exact tI) (ax.of rfl (ee (by decide) dY (by exact tI) (by exact rfl) (by omega))) aH ?_
 refine aN (by exact ⟨rfl, ⟨⟩⟩) (by exact tI) (ax.of rfl (dQ (by decide) jx)) aH ?_
 refine aN (by exact ⟨rfl, ⟨⟩⟩) (by exact ⟨rfl, ⟨⟩⟩) (ax.of rfl (fZ (o := 3) (qs := [val _]) (by omega) (by decide) bq (fun _ => rfl) (by exact nl rfl) (by exact (am.cons bH am.nil)) (by exact (ao.cons (bor_val _) ao.nil)))) aH ?_
 refine aN (by exact ⟨rfl, ⟨⟩⟩) (by exact tI) (ax.of rfl (bc (.inl rfl) (by decide) (by exact Cp.sc))) aH ?_
 refine d3 (l := [(0, RV.nm _ (RV.hdr 999 _ _)), (1, RV.sv false [val _]), (4, RV.sv false [val _]), (5, RV.sv false [val _]), (33, RV.hdr 999 _ _), (34, RV.sv false [val _]), (35, RV.ptr 999 _), (36, RV.ptr 999 _), (37, RV.sv false [val _]), (38, RV.sv false [val _])]) (b := [(999, (70, _ ++ ([val _, val _, nv _ (sl _ _), nv _ (sl _ _), nv _ (sl _ _)] ++ _)))]) (by exact ⟨rfl, rfl, rfl, rfl, rfl, rfl, rfl, rfl, rfl, rfl, ⟨⟩⟩) (by exact ⟨rfl, ⟨⟩⟩) ?_
 refine jI (bx := 999) (L := da) (pre := [val _, val _, nv _ (sl _ _)]) (ms := [nv _ (sl _ _)]) (post := [nv _ (sl _ _)]) (qr := [(false, [val _])]) (as_ := [(false, [val _])]) (by decide) kO rfl (by exact rfl) (by exact (Nm.val Nm.nil)) (by exact ⟨rfl, ⟨⟩⟩) (by exact (aI (by exact tI) tI)) (by exact aI (aI rfl (an am.nil)) tI) (by exact rfl) (by exact (Nm.nv Nm.nil)) (by exact (aA.nv aA.nil)) (by exact lb (by omega) (by omega)) (by exact (bb.nv bb.nil)) (fun x hx => hx.elim) (by exact lc) (by exact (aI (.inl rfl) tI)) (by exact lc) (by exact lc) (by exact lc) (by exact lc) rfl ?_
 refine aN (by exact ⟨rfl, ⟨⟩⟩) (by exact tI) (ax.of rfl (bc (.inr rfl) (by decide) (by exact Cp.sc))) aH ?_
 refine dg ?_
 refine sD ?_
 refine aN (by exact ⟨rfl, ⟨⟩⟩) (by exact tI) (ax.of rfl (bc (.inl rfl) (by decide) (by exact Cp.nm Cp.hdr))) aH ?_
 refine aN (by exact ⟨rfl, ⟨⟩⟩) (by exact tI) (ax.of rfl (bc (.inl rfl) (by decide) (by exact Cp.sc))) aH ?_
 refine aN (by exact ⟨rfl, rfl, ⟨⟩⟩) (by exact tI) (ax.of rfl (ee (by decide) dY (by exact tI) (by exact rfl) (by omega))) aH ?_
 refine aN (by exact ⟨rfl, ⟨⟩⟩) (by exact tI) (ax.of rfl (dQ (by decide) iA)) aH ?_
 refine aN (by exact ⟨rfl, ⟨⟩⟩) (by exact ⟨rfl, ⟨⟩⟩) (ax.of rfl (fZ (o := 4) (qs := [val _]) (by omega) (by decide) bq (fun _ => rfl) (by exact nl rfl) (by exact (am.cons bH am.nil)) (by exact (ao.cons (bor_val _) ao.nil)))) aH ?_
 refine aN (by exact ⟨rfl, ⟨⟩⟩) (by exact tI) (ax.of rfl (bc (.inl rfl) (by decide) (by exact Cp.sc))) aH ?_
 refine d3 (l := [(0, RV.nm _ (RV.hdr 999 _ _)), (1, RV.sv false [val _]), (4, RV.sv false [val _]), (5, RV.sv false [val _]), (40, RV.hdr 999 _ _), (41, RV.sv false [val _]), (42, RV.ptr 999 _), (43, RV.ptr 999 _), (44, RV.sv false [val _]), (45, RV.sv false [val _])]) (b := [(999, (70, _ ++ ([val _, val _, nv _ (sl _ _), nv _ (sl _ _), nv _ (sl _ _)] ++ _)))]) (by exact ⟨rfl, rfl, rfl, rfl, rfl, rfl, rfl, rfl, rfl, rfl, ⟨⟩⟩) (by exact ⟨rfl, ⟨⟩⟩) ?_
 refine jI (bx := 999) (L := da) (pre := [val _, val _, nv _ (sl _ _), nv _ (sl _ _)]) (ms := [nv _ (sl _ _)]) (post := []) (qr := [(false, [val _])]) (as_ := [(false, [val _])]) (by decide) kO rfl (by exact rfl) (by exact (Nm.val Nm.nil)) (by exact ⟨rfl, ⟨⟩⟩) (by exact (aI (by exact tI) tI)) (by exact aI (aI rfl (an am.nil)) tI) (by exact rfl) (by exact (Nm.nv Nm.nil)) (by exact (aA.nv aA.nil)) (by exact lb (by omega) (by omega)) (by exact (bb.nv bb.nil)) (fun x hx => hx.elim) (by exact lc) (by exact (aI (.inl rfl) tI)) (by exact lc) (by exact lc) (by exact ai.nil) (by exact lc) rfl ?_
 refine aN (by exact ⟨rfl, ⟨⟩⟩) (by exact tI) (ax.of rfl (bc (.inr rfl) (by decide) (by exact Cp.sc))) aH ?_
 refine dg ?_
 refine qk (d := 999) (by exact rfl) (by exact (aA.same (aA.same (aA.nv (aA.nv (aA.nv aA.nil)))))) ?_
 refine sO [(0, _), (1, _), (4, _), (5, _)] [(999, (70, _ ++ ([val _, val _, sl _ _, sl _ _, sl _ _] ++ _)))] ?_
 refine eP ?_
 refine nx (i + 1) (by omega) (e := (by exact aI (by exact bg (by rw [et hlt]; rfl)) (aI (by exact rfl) tI))) (f := (by exact aI (by exact congrArg (fun z => some (70, z)) (nw hlt rfl)) tI))
 have hend : i = x.length := by omega
 refine bV (d := 999) (by exact rfl) (oE hend) ?_
 refine oD (s := 0) (D := 999) (e := 5) (by exact rfl) (by exact rfl) (by rw [ar, gw, ar]) (by intro c hc; obtain ⟨y, _, rfl⟩ := List.mem_map.1 hc; exact rfl) hjk ?_
 exact oM
def Ts {x : Wt} {k : Int} (h0k : 0 ≤ k) (hbk : (mK x k).2 ≤ 4611686018427387904) : hM prog 134 true (iz ay aa x) (iz ay aa (mK x k).1) [(false, [val (vI k)])] (vI (mK x k).2) := by
 refine jg func134 rfl (nl rfl) (hJ (ao.cons (bor_val _) ao.nil) hI) ?_
 intro us h0 w0 Fz0 hus
 obtain ⟨v0, v1, v2, v3, rfl⟩ := I1 hus
 simp only [mK] at hbk
 have hm0 := bm jP x.Wu k
 have hm1 := bm cT x.Out (aj bw x.Wu k).2
 refine sS [0, 1] [] ?_
 refine rX ?_ (x := (cI (ag := true) (cs := [nv _ (val _), nv _ (val _), nv _ (sl _ _), nv _ (sl _ _)]) (by decide) (by exact tI)))
 refine dz ?_
 refine sO [(1, _), (2, _), (4, _)] [(2, (52, [nv _ (val _), nv _ (val _), nv _ (sl _ _), nv _ (sl _ _)]))] ?_
 refine gv ?_
 refine aN (by exact ⟨rfl, ⟨⟩⟩) (by exact tI) (ax.of rfl (dQ (by decide) i6)) aH ?_
 refine aN (by exact ⟨rfl, ⟨⟩⟩) (by exact ⟨rfl, ⟨⟩⟩) (ax.of rfl (df (qs := [val _]) (by decide) i7 (fun _ => rfl) (by exact nl rfl) (by exact (am.cons bH am.nil)) (by exact (ao.cons (bor_val _) ao.nil)))) aH ?_
 refine aN (by exact ⟨rfl, ⟨⟩⟩) (by exact tI) (ax.of rfl (bc (.inl rfl) (by decide) (by exact Cp.sc))) aH ?_
 refine d3 (l := [(1, RV.sv false [val _]), (2, RV.ptr 2 0), (4, RV.sv false [val _]), (5, RV.ptr 2 2), (6, RV.sv false [val _]), (7, RV.sv false [val _])]) (b := [(2, (52, [nv _ (val _), nv _ (val _), nv _ (sl _ _), nv _ (sl _ _)]))]) (by exact ⟨rfl, rfl, rfl, rfl, rfl, rfl, ⟨⟩⟩) (by exact ⟨rfl, ⟨⟩⟩) ?_
 refine io (bx := 2) (L := da) (A := [nv _ (val _), nv _ (val _)]) (ms := [nv _ (sl _ _)]) (B := [nv _ (sl _ _)]) (qr := [(false, [val _])]) (as_ := [(false, [val _])]) (by decide) AB rfl (by exact rfl) (by exact (Nm.val Nm.nil)) (by exact ⟨rfl, ⟨⟩⟩) (by exact (aI (by exact tI) tI)) (by exact aI (aI rfl (an am.nil)) tI) (by exact rfl) (by exact (Nm.nv Nm.nil)) (by exact (aA.nv aA.nil)) (by exact Bc (by omega) (by omega)) (by exact (bb.nv bb.nil)) (fun x hx => hx.elim) (by exact lc) (by exact (aI (.inl rfl) tI)) (by exact lc) (by exact lc) rfl ?_
 refine aN (by exact ⟨rfl, ⟨⟩⟩) (by exact tI) (ax.of rfl (bc (.inr rfl) (by decide) (by exact Cp.sc))) aH ?_
 refine dg ?_
 refine rf ?_
 refine aN (by exact ⟨rfl, ⟨⟩⟩) (by exact tI) (ax.of rfl (dQ (by decide) jv)) aH ?_
 refine aN (by exact ⟨rfl, ⟨⟩⟩) (by exact ⟨rfl, ⟨⟩⟩) (ax.of rfl (df (qs := [val _]) (by decide) bq (fun _ => rfl) (by exact nl rfl) (by exact (am.cons bH am.nil)) (by exact (ao.cons (bor_val _) ao.nil)))) aH ?_
 refine aN (by exact ⟨rfl, ⟨⟩⟩) (by exact tI) (ax.of rfl (bc (.inl rfl) (by decide) (by exact Cp.sc))) aH ?_
 refine d3 (l := [(1, RV.sv false [val _]), (2, RV.ptr 2 0), (4, RV.sv false [val _]), (9, RV.ptr 2 3), (10, RV.sv false [val _]), (11, RV.sv false [val _])]) (b := [(2, (52, [nv _ (val _), nv _ (val _), nv _ (sl _ _), nv _ (sl _ _)]))]) (by exact ⟨rfl, rfl, rfl, rfl, rfl, rfl, ⟨⟩⟩) (by exact ⟨rfl, ⟨⟩⟩) ?_
 refine io (bx := 2) (L := da) (A := [nv _ (val _), nv _ (val _), nv _ (sl _ _)]) (ms := [nv _ (sl _ _)]) (B := []) (qr := [(false, [val _])]) (as_ := [(false, [val _])]) (by decide) kO rfl (by exact rfl) (by exact (Nm.val Nm.nil)) (by exact ⟨rfl, ⟨⟩⟩) (by exact (aI (by exact tI) tI)) (by exact aI (aI rfl (an am.nil)) tI) (by exact rfl) (by exact (Nm.nv Nm.nil)) (by exact (aA.nv aA.nil)) (by exact lb (by omega) (by omega)) (by exact (bb.nv bb.nil)) (fun x hx => hx.elim) (by exact lc) (by exact (aI (.inl rfl) tI)) (by exact lc) (by exact ai.nil) rfl ?_
 refine aN (by exact ⟨rfl, ⟨⟩⟩) (by exact tI) (ax.of rfl (bc (.inr rfl) (by decide) (by exact Cp.sc))) aH ?_
 refine dg ?_
 refine s7 ?_
 exact aI (by exact rfl) (bj _ (aI (.inr (bj 2 (bj _ (by exact rfl)))) (aI (by exact (Nm.nv (Nm.nv (Nm.nv (Nm.nv Nm.nil))))) (by exact (aA.nv (aA.nv (aA.nv (aA.nv aA.nil))))))))
def Tt {x : Wv} {k : Int} (h0k : 0 ≤ k) (hbk : (mL x k).2 ≤ 4611686018427387904) : hM prog 135 true (Ap aa x) (Ap aa (mL x k).1) [(false, [val (vI k)])] (vI (mL x k).2) := by
 refine jg func135 rfl (nl rfl) (hJ (ao.cons (bor_val _) ao.nil) hI) ?_
 intro us h0 w0 Fz0 hus
 obtain ⟨v0, v1, v2, v3, v4, rfl⟩ := I2 hus
 simp only [mL] at hbk
 have hm0 := bm cT x.Row.Values k
 have hv0 : (pF x.Row k).2 = (aj aQ x.Row.Values k).2 := rfl
 refine sS [0, 1] [] ?_
 refine rX ?_ (x := (cI (ag := true) (cs := [nv _ (val _), nv _ (val _), nv _ (sl _ _), nv _ (val _), nv _ (val _)]) (by decide) (by exact tI)))
 refine dz ?_
 refine sO [(1, _), (2, _), (4, _)] [(2, (56, [nv _ (val _), nv _ (val _), nv _ (sl _ _), nv _ (val _), nv _ (val _)]))] ?_
 refine gv ?_
 refine aN (by exact ⟨rfl, ⟨⟩⟩) (by exact tI) (ax.of rfl (dQ (by decide) gF)) aH ?_
 refine aN (by exact ⟨rfl, ⟨⟩⟩) (by exact ⟨rfl, ⟨⟩⟩) (ax.of rfl (df (qs := [val _, val _]) (by decide) eS (fun h => nomatch h) (by exact nl rfl) (by exact (am.cons bH (am.cons bH am.nil))) (by exact (ao.cons (bor_val _) (ao.cons (bor_val _) ao.nil))))) aH ?_
 refine aN (by exact ⟨rfl, ⟨⟩⟩) (by exact tI) (ax.of rfl (bc (.inl rfl) (by decide) (by exact Cp.sc))) aH ?_
 refine d3 (l := [(1, RV.sv false [val _]), (2, RV.ptr 2 0), (4, RV.sv false [val _]), (5, RV.ptr 2 1), (6, RV.sv true [val _, val _]), (7, RV.sv false [val _])]) (b := [(2, (56, [nv _ (val _), nv _ (val _), nv _ (sl _ _), nv _ (val _), nv _ (val _)]))]) (by exact ⟨rfl, rfl, rfl, rfl, rfl, rfl, ⟨⟩⟩) (by exact ⟨rfl, ⟨⟩⟩) ?_
 refine io (bx := 2) (L := da) (A := [nv _ (val _)]) (ms := [nv _ (val _), nv _ (sl _ _)]) (B := [nv _ (val _), nv _ (val _)]) (qr := [(false, [val _])]) (as_ := [(false, [val _])]) (by decide) PC rfl (by exact rfl) (by exact (Nm.val (Nm.val Nm.nil))) (by exact ⟨rfl, ⟨⟩⟩) (by exact (aI (by exact tI) tI)) (by exact aI (aI rfl (an am.nil)) tI) (by exact rfl) (by exact (Nm.nv (Nm.nv Nm.nil))) (by exact (aA.nv (aA.nv aA.nil))) (by exact Tq (by first | omega | (simp only [pF]; omega)) (by first | omega | (simp only [pF]; omega))) (by exact (bb.nv (bb.nv bb.nil))) (fun x hx => hx.elim) (by exact lc) (by exact (aI (.inl rfl) tI)) (by exact lc) (by exact lc) rfl ?_
 refine aN (by exact ⟨rfl, ⟨⟩⟩) (by exact tI) (ax.of rfl (bc (.inr rfl) (by decide) (by exact Cp.sc))) aH ?_
 refine dg ?_
 refine s7 ?_
 exact aI (by exact rfl) (bj _ (aI (.inr (bj 2 (bj _ (by exact rfl)))) (aI (by exact (Nm.nv (Nm.nv (Nm.nv (Nm.nv (Nm.nv Nm.nil)))))) (by exact (aA.nv (aA.nv (aA.nv (aA.nv (aA.nv aA.nil)))))))))
def K4 {x : List Row} {k : Int} (h0k : 0 ≤ k) (hbk : (aj eJ x k).2 ≤ 4611686018427387904) : hM prog 222 false [sl aB (x.map (bu aa))] [sl aB ((aj eJ x k).1.map (bu aa))] [(false, [val (vI k)])] (vI (aj eJ x k).2) := by
 refine jg func222 rfl (nl rfl) (hJ (ao.cons (bor_val _) ao.nil) hI) ?_
 intro us h0 w0 Fz0 hus
 obtain ⟨u0, rfl⟩ := nA hus
 by_cases hx : x = []
 subst hx
 refine oa ?_
 rintro _ _
 refine mG ?_
 refine rA ?_ (x := lN fG)
 exact nE
 refine ns (s := 0) (D := 999) (E := 54) (e := 2) (u := u0) (es := x.map (bu aa)) (L := da) (by exact rfl) (by simpa using hx) (by exact rfl) (by exact rfl) (fun x hx => hx.elim) (by exact aI (.inl rfl) (aI (.inr (RV.lcl_sv (ai.cons lcl_val ai.nil))) tI)) tI (ai.map fun x => (ai.cons lcl_val (ai.cons (lcl_own (ai.map fun x => (ai.cons lcl_val ai.nil))) ai.nil))) fun cp jk hl0 hcp hjk => ?_
 have hlm : (x.map (bu aa)).length = x.length := ar _
 rw [hlm] at hl0 hcp
 have hmono := ip lM x
 have hmono0 := fun i => bm lM (x.take i) k
 refine ob ?_
 refine sL [0, 4] [] (fun i : Nat => i ≤ x.length) (fun i : Nat => [(1, RV.int (aj eJ (x.take i) k).2), (5, RV.int (i : Int))]) (fun i : Nat => [(999, (54, (((aj eJ (x.take i) k).1 ++ x.drop i).map (bu aa)).flatten ++ jk.map val))]) (fun i : Nat => x.length - i) 0 (by omega) (by exact aI (by exact rfl) (aI (by exact rfl) tI)) (by exact aI (by exact congrArg (fun z => some (54, z)) nz) tI) ?_
 rintro i hi
 refine od ?_
 refine rA ?_ (x := np (by decide) fG)
 refine rA ?_ (x := cy)
 refine sc (fun hba => ?_) (fun hba => ?_)
 have hlt : i < x.length := by omega
 have hk0 := hmono0 i
 have hk1 := hmono (i + 1) k
 rw [et hlt] at hk1
 dsimp only at hk1
 have hm0 := bm cT x[i].Values ((aj eJ (x.take i) k).2 + 1)
 simp only [eJ] at hk1
 refine bV (d := 999) (by exact rfl) (nu hlt) ?_
 have hA := ny (f := eJ) (c := (bu aa)) (e := 2) (k := k) (fun _ => rfl) (Nat.le_of_lt hlt)
 refine md (d := 999) (ms := [val _, sl _ _]) (by exact rfl) fun us hus => ?_
 obtain ⟨v0, v1, rfl⟩ := vY hus
 refine cF ?_
 refine sO [(0, _), (1, _), (4, _), (5, _)] [(999, (54, _ ++ ([nv _ (val _), nv _ (sl _ _)] ++ _)))] ?_
 refine pt ?_
 refine rM ?_
 refine rA ?_ (x := ee (by decide) fG (by exact tI) (by exact rfl) (by omega))
 refine rA ?_ (x := lF jw)
 refine qH ?_
 refine sO [(0, _), (1, _), (4, _), (5, _)] [(999, (54, _ ++ ([val _, nv _ (sl _ _)] ++ _)))] ?_
 refine eP ?_
 refine sD ?_
 refine aN (by exact ⟨rfl, ⟨⟩⟩) (by exact tI) (ax.of rfl (bc (.inl rfl) (by decide) (by exact Cp.nm Cp.hdr))) aH ?_
 refine aN (by exact ⟨rfl, ⟨⟩⟩) (by exact tI) (ax.of rfl (bc (.inl rfl) (by decide) (by exact Cp.sc))) aH ?_
 refine aN (by exact ⟨rfl, rfl, ⟨⟩⟩) (by exact tI) (ax.of rfl (ee (by decide) fG (by exact tI) (by exact rfl) (by omega))) aH ?_
 refine aN (by exact ⟨rfl, ⟨⟩⟩) (by exact tI) (ax.of rfl (dQ (by decide) gY)) aH ?_
 refine aN (by exact ⟨rfl, ⟨⟩⟩) (by exact ⟨rfl, ⟨⟩⟩) (ax.of rfl (fZ (o := 1) (qs := [val _]) (by omega) (by decide) bq (fun _ => rfl) (by exact nl rfl) (by exact (am.cons bH am.nil)) (by exact (ao.cons (bor_val _) ao.nil)))) aH ?_
 refine aN (by exact ⟨rfl, ⟨⟩⟩) (by exact tI) (ax.of rfl (bc (.inl rfl) (by decide) (by exact Cp.sc))) aH ?_
 refine d3 (l := [(0, RV.nm _ (RV.hdr 999 _ _)), (1, RV.sv false [val _]), (4, RV.sv false [val _]), (5, RV.sv false [val _]), (19, RV.hdr 999 _ _), (20, RV.sv false [val _]), (21, RV.ptr 999 _), (22, RV.ptr 999 _), (23, RV.sv false [val _]), (24, RV.sv false [val _])]) (b := [(999, (54, _ ++ ([val _, nv _ (sl _ _)] ++ _)))]) (by exact ⟨rfl, rfl, rfl, rfl, rfl, rfl, rfl, rfl, rfl, rfl, ⟨⟩⟩) (by exact ⟨rfl, ⟨⟩⟩) ?_
 refine jI (bx := 999) (L := da) (pre := [val _]) (ms := [nv _ (sl _ _)]) (post := []) (qr := [(false, [val _])]) (as_ := [(false, [val _])]) (by decide) kO rfl (by exact rfl) (by exact (Nm.val Nm.nil)) (by exact ⟨rfl, ⟨⟩⟩) (by exact (aI (by exact tI) tI)) (by exact aI (aI rfl (an am.nil)) tI) (by exact rfl) (by exact (Nm.nv Nm.nil)) (by exact (aA.nv aA.nil)) (by exact lb (by omega) (by omega)) (by exact (bb.nv bb.nil)) (fun x hx => hx.elim) (by exact lc) (by exact (aI (.inl rfl) tI)) (by exact lc) (by exact lc) (by exact ai.nil) (by exact lc) rfl ?_
 refine aN (by exact ⟨rfl, ⟨⟩⟩) (by exact tI) (ax.of rfl (bc (.inr rfl) (by decide) (by exact Cp.sc))) aH ?_
 refine dg ?_
 refine qk (d := 999) (by exact rfl) (by exact (aA.same (aA.nv aA.nil))) ?_
 refine sO [(0, _), (1, _), (4, _), (5, _)] [(999, (54, _ ++ ([val _, sl _ _] ++ _)))] ?_
 refine eP ?_
 refine nx (i + 1) (by omega) (e := (by exact aI (by exact bg (by rw [et hlt]; rfl)) (aI (by exact rfl) tI))) (f := (by exact aI (by exact congrArg (fun z => some (54, z)) (nw hlt rfl)) tI))
 have hend : i = x.length := by omega
 refine bV (d := 999) (by exact rfl) (oE hend) ?_
 refine oD (s := 0) (D := 999) (e := 2) (by exact rfl) (by exact rfl) (by rw [ar, gw, ar]) (by intro c hc; obtain ⟨y, _, rfl⟩ := List.mem_map.1 hc; exact rfl) hjk ?_
 exact oM
def Tu {x : List aT} {k : Int} (h0k : 0 ≤ k) (hbk : (aj fD x k).2 ≤ 4611686018427387904) : hM prog 268 false [sl aS (x.map (cG aa))] [sl aS ((aj fD x k).1.map (cG aa))] [(false, [val (vI k)])] (vI (aj fD x k).2) := by
 refine jg func268 rfl (nl rfl) (hJ (ao.cons (bor_val _) ao.nil) hI) ?_
 intro us h0 w0 Fz0 hus
 obtain ⟨u0, rfl⟩ := nA hus
 by_cases hx : x = []
 subst hx
 refine oa ?_
 rintro _ _
 refine mG ?_
 refine rA ?_ (x := lN ck)
 exact nE
 refine ns (s := 0) (D := 999) (E := 184) (e := 4) (u := u0) (es := x.map (cG aa)) (L := da) (by exact rfl) (by simpa using hx) (by exact rfl) (by exact rfl) (fun x hx => hx.elim) (by exact aI (.inl rfl) (aI (.inr (RV.lcl_sv (ai.cons lcl_val ai.nil))) tI)) tI (ai.map fun x => (ai.cons lcl_val (ai.cons (lcl_own (ai.map fun x => (ai.cons lcl_val ai.nil))) (ai.cons lcl_val (ai.cons lcl_val ai.nil))))) fun cp jk hl0 hcp hjk => ?_
 have hlm : (x.map (cG aa)).length = x.length := ar _
 rw [hlm] at hl0 hcp
 have hmono := ip pH x
 have hmono0 := fun i => bm pH (x.take i) k
 refine ob ?_
 refine sL [0, 4] [] (fun i : Nat => i ≤ x.length) (fun i : Nat => [(1, RV.int (aj fD (x.take i) k).2), (5, RV.int (i : Int))]) (fun i : Nat => [(999, (184, (((aj fD (x.take i) k).1 ++ x.drop i).map (cG aa)).flatten ++ jk.map val))]) (fun i : Nat => x.length - i) 0 (by omega) (by exact aI (by exact rfl) (aI (by exact rfl) tI)) (by exact aI (by exact congrArg (fun z => some (184, z)) nz) tI) ?_
 rintro i hi
 refine od ?_
 refine rA ?_ (x := np (by decide) ck)
 refine rA ?_ (x := cy)
 refine sc (fun hba => ?_) (fun hba => ?_)
 have hlt : i < x.length := by omega
 have hk0 := hmono0 i
 have hk1 := hmono (i + 1) k
 rw [et hlt] at hk1
 dsimp only at hk1
 have hm0 := bm cT x[i].Values ((aj fD (x.take i) k).2 + 1)
 simp only [fD] at hk1
 refine bV (d := 999) (by exact rfl) (nu hlt) ?_
 have hA := ny (f := fD) (c := (cG aa)) (e := 4) (k := k) (fun _ => rfl) (Nat.le_of_lt hlt)
 refine md (d := 999) (ms := [val _, sl _ _, val _, val _]) (by exact rfl) fun us hus => ?_
 obtain ⟨v0, v1, v2, v3, rfl⟩ := I1 hus
 refine cF ?_
 refine sO [(0, _), (1, _), (4, _), (5, _)] [(999, (184, _ ++ ([nv _ (val _), nv _ (sl _ _), nv _ (val _), nv _ (val _)] ++ _)))] ?_
 refine pt ?_
 refine zv ?_
 refine rA ?_ (x := lF lQ)
 refine qH ?_
 refine sO [(0, _), (1, _), (4, _), (5, _)] [(999, (184, _ ++ ([val _, nv _ (sl _ _), nv _ (val _), nv _ (val _)] ++ _)))] ?_
 refine eP ?_
 refine nX ?_
 refine aN (by exact ⟨rfl, ⟨⟩⟩) (by exact tI) (ax.of rfl (bc (.inl rfl) (by decide) (by exact Cp.nm Cp.hdr))) aH ?_
 refine aN (by exact ⟨rfl, ⟨⟩⟩) (by exact tI) (ax.of rfl (bc (.inl rfl) (by decide) (by exact Cp.sc))) aH ?_
 refine aN (by exact ⟨rfl, rfl, ⟨⟩⟩) (by exact tI) (ax.of rfl (ee (by decide) ck (by exact tI) (by exact rfl) (by omega))) aH ?_
 refine aN (by exact ⟨rfl, ⟨⟩⟩) (by exact tI) (ax.of rfl (dQ (by decide) i2)) aH ?_
 refine aN (by exact ⟨rfl, ⟨⟩⟩) (by exact ⟨rfl, ⟨⟩⟩) (ax.of rfl (fZ (o := 1) (qs := [val _]) (by omega) (by decide) bq (fun _ => rfl) (by exact nl rfl) (by exact (am.cons bH am.nil)) (by exact (ao.cons (bor_val _) ao.nil)))) aH ?_
 refine aN (by exact ⟨rfl, ⟨⟩⟩) (by exact tI) (ax.of rfl (bc (.inl rfl) (by decide) (by exact Cp.sc))) aH ?_
 refine d3 (l := [(0, RV.nm _ (RV.hdr 999 _ _)), (1, RV.sv false [val _]), (4, RV.sv false [val _]), (5, RV.sv false [val _]), (19, RV.hdr 999 _ _), (20, RV.sv false [val _]), (21, RV.ptr 999 _), (22, RV.ptr 999 _), (23, RV.sv false [val _]), (24, RV.sv false [val _])]) (b := [(999, (184, _ ++ ([val _, nv _ (sl _ _), nv _ (val _), nv _ (val _)] ++ _)))]) (by exact ⟨rfl, rfl, rfl, rfl, rfl, rfl, rfl, rfl, rfl, rfl, ⟨⟩⟩) (by exact ⟨rfl, ⟨⟩⟩) ?_
 refine jI (bx := 999) (L := da) (pre := [val _]) (ms := [nv _ (sl _ _)]) (post := [nv _ (val _), nv _ (val _)]) (qr := [(false, [val _])]) (as_ := [(false, [val _])]) (by decide) kO rfl (by exact rfl) (by exact (Nm.val Nm.nil)) (by exact ⟨rfl, ⟨⟩⟩) (by exact (aI (by exact tI) tI)) (by exact aI (aI rfl (an am.nil)) tI) (by exact rfl) (by exact (Nm.nv Nm.nil)) (by exact (aA.nv aA.nil)) (by exact lb (by omega) (by omega)) (by exact (bb.nv bb.nil)) (fun x hx => hx.elim) (by exact lc) (by exact (aI (.inl rfl) tI)) (by exact lc) (by exact lc) (by exact lc) (by exact lc) rfl ?_
 refine aN (by exact ⟨rfl, ⟨⟩⟩) (by exact tI) (ax.of rfl (bc (.inr rfl) (by decide) (by exact Cp.sc))) aH ?_
 refine dg ?_
 refine pf ?_
 refine zv ?_
 refine rA ?_ (x := lF i3)
 refine rA ?_ (x := fP (o := 2) (ag := false) (vs := [val _]) (by omega) au (by exact tI) (by exact rfl) (by exact nl rfl))
 refine aP ?_
 refine sO [(0, _), (1, _), (4, _), (5, _)] [(999, (184, _ ++ ([val _, nv _ (sl _ _), val _, nv _ (val _)] ++ _)))] ?_
 refine pw ?_
 refine zv ?_
 refine rA ?_ (x := lF fR)
 refine rA ?_ (x := fP (o := 3) (ag := false) (vs := [val _]) (by omega) au (by exact tI) (by exact rfl) (by exact nl rfl))
 refine sO [(0, _), (1, _), (4, _), (5, _)] [(999, (184, _ ++ ([val _, nv _ (sl _ _), val _, val _] ++ _)))] ?_
 refine eP ?_
 refine qk (d := 999) (by exact rfl) (by exact (aA.same (aA.nv (aA.same (aA.same aA.nil))))) ?_
 refine sO [(0, _), (1, _), (4, _), (5, _)] [(999, (184, _ ++ ([val _, sl _ _, val _, val _] ++ _)))] ?_
 refine eP ?_
 refine nx (i + 1) (by omega) (e := (by exact aI (by exact bg (by rw [et hlt]; rfl)) (aI (by exact rfl) tI))) (f := (by exact aI (by exact congrArg (fun z => some (184, z)) (nw hlt rfl)) tI))
 have hend : i = x.length := by omega
 refine bV (d := 999) (by exact rfl) (oE hend) ?_
 refine oD (s := 0) (D := 999) (e := 4) (by exact rfl) (by exact rfl) (by rw [ar, gw, ar]) (by intro c hc; obtain ⟨y, _, rfl⟩ := List.mem_map.1 hc; exact rfl) hjk ?_
 exact oM
def Tv {x : eH} {k : Int} (h0k : 0 ≤ k) (hbk : (rn x k).2 ≤ 4611686018427387904) : hM prog 44 true (Aq ay aa aa x) (Aq ay aa aa (rn x k).1) [(false, [val (vI k)])] (vI (rn x k).2) := by
 refine jg func44 rfl (nl rfl) (hJ (ao.cons (bor_val _) ao.nil) hI) ?_
 intro us h0 w0 Fz0 hus
 obtain ⟨v0, v1, v2, v3, v4, v5, v6, v7, v8, v9, v10, v11, v12, rfl⟩ := I3 hus
 simp only [rn] at hbk
 have hm0 := bm jP x.Wt.Wu k
 have hm1 := bm cT x.Wt.Out (aj bw x.Wt.Wu k).2
 have hm2 := bm cT x.Wv.Row.Values (aj aQ x.Wt.Out (aj bw x.Wt.Wu k).2).2
 have hv0 : (mK x.Wt k).2 = (aj aQ x.Wt.Out (aj bw x.Wt.Wu k).2).2 := rfl
 have hv1 : (mL x.Wv (aj aQ x.Wt.Out (aj bw x.Wt.Wu k).2).2).2 = (aj aQ x.Wv.Row.Values (aj aQ x.Wt.Out (aj bw x.Wt.Wu k).2).2).2 := rfl
 refine sS [0, 1] [] ?_
 refine rX ?_ (x := (cI (ag := true) (cs := [nv _ (val _), nv _ (val _), nv _ (val _), nv _ (sl _ _), nv _ (sl _ _), nv _ (val _), nv _ (val _), nv _ (val _), nv _ (val _), nv _ (sl _ _), nv _ (val _), nv _ (val _), nv _ (val _)]) (by decide) (by exact tI)))
 refine dz ?_
 refine sO [(1, _), (2, _), (4, _)] [(2, (58, [nv _ (val _), nv _ (val _), nv _ (val _), nv _ (sl _ _), nv _ (sl _ _), nv _ (val _), nv _ (val _), nv _ (val _), nv _ (val _), nv _ (sl _ _), nv _ (val _), nv _ (val _), nv _ (val _)]))] ?_
 refine gv ?_
 refine aN (by exact ⟨rfl, ⟨⟩⟩) (by exact tI) (ax.of rfl (dQ (by decide) AH)) aH ?_
 refine aN (by exact ⟨rfl, ⟨⟩⟩) (by exact ⟨rfl, ⟨⟩⟩) (ax.of rfl (df (qs := [val _, val _, val _, val _]) (by decide) eK (fun h => nomatch h) (by exact nl rfl) (by exact (am.cons bH (am.cons bH (am.cons bH (am.cons bH am.nil))))) (by exact lq))) aH ?_
 refine aN (by exact ⟨rfl, ⟨⟩⟩) (by exact tI) (ax.of rfl (bc (.inl rfl) (by decide) (by exact Cp.sc))) aH ?_
 refine d3 (l := [(1, RV.sv false [val _]), (2, RV.ptr 2 0), (4, RV.sv false [val _]), (5, RV.ptr 2 1), (6, RV.sv true [val _, val _, val _, val _]), (7, RV.sv false [val _])]) (b := [(2, (58, [nv _ (val _), nv _ (val _), nv _ (val _), nv _ (sl _ _), nv _ (sl _ _), nv _ (val _), nv _ (val _), nv _ (val _), nv _ (val _), nv _ (sl _ _), nv _ (val _), nv _ (val _), nv _ (val _)]))]) (by exact ⟨rfl, rfl, rfl, rfl, rfl, rfl, ⟨⟩⟩) (by exact ⟨rfl, ⟨⟩⟩) ?_
 refine io (bx := 2) (L := da) (A := [nv _ (val _)]) (ms := [nv _ (val _), nv _ (val _), nv _ (sl _ _), nv _ (sl _ _)]) (B := [nv _ (val _), nv _ (val _), nv _ (val _), nv _ (val _), nv _ (sl _ _), nv _ (val _), nv _ (val _), nv _ (val _)]) (qr := [(false, [val _])]) (as_ := [(false, [val _])]) (by decide) O4 rfl (by exact rfl) (by exact (Nm.val (Nm.val (Nm.val (Nm.val Nm.nil))))) (by exact ⟨rfl, ⟨⟩⟩) (by exact (aI (by exact tI) tI)) (by exact aI (aI rfl (an am.nil)) tI) (by exact rfl) (by exact (Nm.nv (Nm.nv (Nm.nv (Nm.nv Nm.nil))))) (by exact (aA.nv (aA.nv (aA.nv (aA.nv aA.nil))))) (by exact Ts (by first | omega | (simp only [mK, mL]; omega)) (by first | omega | (simp only [mK, mL]; omega))) (by exact (bb.nv (bb.nv (bb.nv (bb.nv bb.nil))))) (fun x hx => hx.elim) (by exact lc) (by exact (aI (.inl rfl) tI)) (by exact lc) (by exact lc) rfl ?_
 refine aN (by exact ⟨rfl, ⟨⟩⟩) (by exact tI) (ax.of rfl (bc (.inr rfl) (by decide) (by exact Cp.sc))) aH ?_
 refine dg ?_
 refine rf ?_
 refine aN (by exact ⟨rfl, ⟨⟩⟩) (by exact tI) (ax.of rfl (dQ (by decide) pN)) aH ?_
 refine aN (by exact ⟨rfl, ⟨⟩⟩) (by exact ⟨rfl, ⟨⟩⟩) (ax.of rfl (df (qs := [val _, val _, val _, val _, val _]) (by decide) kg (fun h => nomatch h) (by exact nl rfl) (by exact (am.cons bH (am.cons bH (am.cons bH (am.cons bH (am.cons bH am.nil)))))) (by exact lq))) aH ?_
 refine aN (by exact ⟨rfl, ⟨⟩⟩) (by exact tI) (ax.of rfl (bc (.inl rfl) (by decide) (by exact Cp.sc))) aH ?_
 refine d3 (l := [(1, RV.sv false [val _]), (2, RV.ptr 2 0), (4, RV.sv false [val _]), (9, RV.ptr 2 7), (10, RV.sv true [val _, val _, val _, val _, val _]), (11, RV.sv false [val _])]) (b := [(2, (58, [nv _ (val _), nv _ (val _), nv _ (val _), nv _ (sl _ _), nv _ (sl _ _), nv _ (val _), nv _ (val _), nv _ (val _), nv _ (val _), nv _ (sl _ _), nv _ (val _), nv _ (val _), nv _ (val _)]))]) (by exact ⟨rfl, rfl, rfl, rfl, rfl, rfl, ⟨⟩⟩) (by exact ⟨rfl, ⟨⟩⟩) ?_
 refine io (bx := 2) (L := da) (A := [nv _ (val _), nv _ (val _), nv _ (val _), nv _ (sl _ _), nv _ (sl _ _), nv _ (val _), nv _ (val _)]) (ms := [nv _ (val _), nv _ (val _), nv _ (sl _ _), nv _ (val _), nv _ (val _)]) (B := [nv _ (val _)]) (qr := [(false, [val _])]) (as_ := [(false, [val _])]) (by decide) O5 rfl (by exact rfl) (by exact (Nm.val (Nm.val (Nm.val (Nm.val (Nm.val Nm.nil)))))) (by exact ⟨rfl, ⟨⟩⟩) (by exact (aI (by exact tI) tI)) (by exact aI (aI rfl (an am.nil)) tI) (by exact rfl) (by exact (Nm.nv (Nm.nv (Nm.nv (Nm.nv (Nm.nv Nm.nil)))))) (by exact (aA.nv (aA.nv (aA.nv (aA.nv (aA.nv aA.nil)))))) (by exact Tt (by first | omega | (simp only [mK, mL]; omega)) (by first | omega | (simp only [mK, mL]; omega))) (by exact (bb.nv (bb.nv (bb.nv (bb.nv (bb.nv bb.nil)))))) (fun x hx => hx.elim) (by exact lc) (by exact (aI (.inl rfl) tI)) (by exact lc) (by exact lc) rfl ?_
 refine aN (by exact ⟨rfl, ⟨⟩⟩) (by exact tI) (ax.of rfl (bc (.inr rfl) (by decide) (by exact Cp.sc))) aH ?_
 refine dg ?_
 refine s7 ?_
 exact aI (by exact rfl) (bj _ (aI (.inr (bj 2 (bj _ (by exact rfl)))) (aI (by exact (Nm.nv (Nm.nv (Nm.nv (Nm.nv (Nm.nv (Nm.nv (Nm.nv (Nm.nv (Nm.nv (Nm.nv (Nm.nv (Nm.nv (Nm.nv Nm.nil)))))))))))))) (by exact (aA.nv (aA.nv (aA.nv (aA.nv (aA.nv (aA.nv (aA.nv (aA.nv (aA.nv (aA.nv (aA.nv (aA.nv (aA.nv aA.nil)))))))))))))))))
def Tw {x : List (List aT)} {k : Int} (h0k : 0 ≤ k) (hbk : (aj cj x k).2 ≤ 4611686018427387904) : hM prog 221 false [sl bo (x.map (aD aS aa))] [sl bo ((aj cj x k).1.map (aD aS aa))] [(false, [val (vI k)])] (vI (aj cj x k).2) := by
 refine jg func221 rfl (nl rfl) (hJ (ao.cons (bor_val _) ao.nil) hI) ?_
 intro us h0 w0 Fz0 hus
 obtain ⟨u0, rfl⟩ := nA hus
 by_cases hx : x = []
 subst hx
 refine oa ?_
 rintro _ _
 refine mG ?_
 refine rA ?_ (x := lN cV)
 exact nE
 refine ns (s := 0) (D := 999) (E := 139) (e := 1) (u := u0) (es := x.map (aD aS aa)) (L := da) (by exact rfl) (by simpa using hx) (by exact rfl) (by exact rfl) (fun x hx => hx.elim) (by exact aI (.inl rfl) (aI (.inr (RV.lcl_sv (ai.cons lcl_val ai.nil))) tI)) tI (ai.map fun x => (ai.cons (lcl_own (ai.map fun x => (ai.cons lcl_val (ai.cons (lcl_own (ai.map fun x => (ai.cons lcl_val ai.nil))) (ai.cons lcl_val (ai.cons lcl_val ai.nil)))))) ai.nil)) fun cp jk hl0 hcp hjk => ?_
 have hlm : (x.map (aD aS aa)).length = x.length := ar _
 rw [hlm] at hl0 hcp
 have hmono := ip mM x
 have hmono0 := fun i => bm mM (x.take i) k
 refine ob ?_
 refine sL [0, 4] [] (fun i : Nat => i ≤ x.length) (fun i : Nat => [(1, RV.int (aj cj (x.take i) k).2), (5, RV.int (i : Int))]) (fun i : Nat => [(999, (139, (((aj cj (x.take i) k).1 ++ x.drop i).map (aD aS aa)).flatten ++ jk.map val))]) (fun i : Nat => x.length - i) 0 (by omega) (by exact aI (by exact rfl) (aI (by exact rfl) tI)) (by exact aI (by exact congrArg (fun z => some (139, z)) nz) tI) ?_
 rintro i hi
 refine od ?_
 refine rA ?_ (x := np (by decide) cV)
 refine rA ?_ (x := cy)
 refine sc (fun hba => ?_) (fun hba => ?_)
 have hlt : i < x.length := by omega
 have hk0 := hmono0 i
 have hk1 := hmono (i + 1) k
 rw [et hlt] at hk1
 dsimp only at hk1
 have hm0 := bm pH x[i] (aj cj (x.take i) k).2
 simp only [cj] at hk1
 refine bV (d := 999) (by exact rfl) (nu hlt) ?_
 have hA := ny (f := cj) (c := (aD aS aa)) (e := 1) (k := k) (fun _ => rfl) (Nat.le_of_lt hlt)
 refine md (d := 999) (ms := [sl _ _]) (by exact rfl) fun us hus => ?_
 obtain ⟨v0, rfl⟩ := tg hus
 refine bB ?_
 refine sO [(0, _), (1, _), (4, _), (5, _)] [(999, (139, _ ++ ([nv _ (sl _ _)] ++ _)))] ?_
 refine gv ?_
 refine aN (by exact ⟨rfl, ⟨⟩⟩) (by exact tI) (ax.of rfl (bc (.inl rfl) (by decide) (by exact Cp.nm Cp.hdr))) aH ?_
 refine aN (by exact ⟨rfl, ⟨⟩⟩) (by exact tI) (ax.of rfl (bc (.inl rfl) (by decide) (by exact Cp.sc))) aH ?_
 refine aN (by exact ⟨rfl, rfl, ⟨⟩⟩) (by exact tI) (ax.of rfl (ee (by decide) cV (by exact tI) (by exact rfl) (by omega))) aH ?_
 refine aN (by exact ⟨rfl, ⟨⟩⟩) (by exact ⟨rfl, ⟨⟩⟩) (ax.of rfl (fZ (o := 0) (qs := [val _]) (by omega) (by decide) fH (fun _ => rfl) (by exact nl rfl) (by exact (am.cons bH am.nil)) (by exact (ao.cons (bor_val _) ao.nil)))) aH ?_
 refine aN (by exact ⟨rfl, ⟨⟩⟩) (by exact tI) (ax.of rfl (bc (.inl rfl) (by decide) (by exact Cp.sc))) aH ?_
 refine d3 (l := [(0, RV.nm _ (RV.hdr 999 _ _)), (1, RV.sv false [val _]), (4, RV.sv false [val _]), (5, RV.sv false [val _]), (12, RV.hdr 999 _ _), (13, RV.sv false [val _]), (14, RV.ptr 999 _), (15, RV.sv false [val _]), (16, RV.sv false [val _])]) (b := [(999, (139, _ ++ ([nv _ (sl _ _)] ++ _)))]) (by exact ⟨rfl, rfl, rfl, rfl, rfl, rfl, rfl, rfl, rfl, ⟨⟩⟩) (by exact ⟨rfl, ⟨⟩⟩) ?_
 refine jI (bx := 999) (L := da) (pre := []) (ms := [nv _ (sl _ _)]) (post := []) (qr := [(false, [val _])]) (as_ := [(false, [val _])]) (by decide) PQ rfl (by exact rfl) (by exact (Nm.val Nm.nil)) (by exact ⟨rfl, ⟨⟩⟩) (by exact (aI (by exact tI) tI)) (by exact aI (aI rfl (an am.nil)) tI) (by exact rfl) (by exact (Nm.nv Nm.nil)) (by exact (aA.nv aA.nil)) (by exact Tu (by omega) (by omega)) (by exact (bb.nv bb.nil)) (fun x hx => hx.elim) (by exact lc) (by exact (aI (.inl rfl) tI)) (by exact lc) (by exact ai.nil) (by exact ai.nil) (by exact lc) rfl ?_
 refine aN (by exact ⟨rfl, ⟨⟩⟩) (by exact tI) (ax.of rfl (bc (.inr rfl) (by decide) (by exact Cp.sc))) aH ?_
 refine dg ?_
 refine qk (d := 999) (by exact rfl) (by exact (aA.nv aA.nil)) ?_
 refine sO [(0, _), (1, _), (4, _), (5, _)] [(999, (139, _ ++ ([sl _ _] ++ _)))] ?_
 refine eP ?_
 refine nx (i + 1) (by omega) (e := (by exact aI (by exact bg (by rw [et hlt]; rfl)) (aI (by exact rfl) tI))) (f := (by exact aI (by exact congrArg (fun z => some (139, z)) (nw hlt rfl)) tI))
 exact Dz
def Tx {x : Store} {k : Int} (h0k : 0 ≤ k) (hbk : (fE x k).2 ≤ 4611686018427387904) : hM prog 129 true (Ar bo aS aa x) (Ar bo aS aa (fE x k).1) [(false, [val (vI k)])] (vI (fE x k).2) := by
 refine jg func129 rfl (nl rfl) (hJ (ao.cons (bor_val _) ao.nil) hI) ?_
 intro us h0 w0 Fz0 hus
 obtain ⟨v0, v1, rfl⟩ := vY hus
 simp only [fE] at hbk
 have hm0 := bm mM x.Wr k
 refine sS [0, 1] [] ?_
 refine rX ?_ (x := (cI (ag := true) (cs := [nv _ (sl _ _), nv _ (val _)]) (by decide) (by exact tI)))
 refine dz ?_
 refine sO [(1, _), (2, _), (4, _)] [(2, (26, [nv _ (sl _ _), nv _ (val _)]))] ?_
 refine gv ?_
 refine aN (by exact ⟨rfl, ⟨⟩⟩) (by exact tI) (ax.of rfl (dQ (by decide) jr)) aH ?_
 refine aN (by exact ⟨rfl, ⟨⟩⟩) (by exact ⟨rfl, ⟨⟩⟩) (ax.of rfl (df (qs := [val _]) (by decide) jy (fun _ => rfl) (by exact nl rfl) (by exact (am.cons bH am.nil)) (by exact (ao.cons (bor_val _) ao.nil)))) aH ?_
 refine aN (by exact ⟨rfl, ⟨⟩⟩) (by exact tI) (ax.of rfl (bc (.inl rfl) (by decide) (by exact Cp.sc))) aH ?_
 refine d3 (l := [(1, RV.sv false [val _]), (2, RV.ptr 2 0), (4, RV.sv false [val _]), (5, RV.ptr 2 0), (6, RV.sv false [val _]), (7, RV.sv false [val _])]) (b := [(2, (26, [nv _ (sl _ _), nv _ (val _)]))]) (by exact ⟨rfl, rfl, rfl, rfl, rfl, rfl, ⟨⟩⟩) (by exact ⟨rfl, ⟨⟩⟩) ?_
 refine io (bx := 2) (L := da) (A := []) (ms := [nv _ (sl _ _)]) (B := [nv _ (val _)]) (qr := [(false, [val _])]) (as_ := [(false, [val _])]) (by decide) PB rfl (by exact rfl) (by exact (Nm.val Nm.nil)) (by exact ⟨rfl, ⟨⟩⟩) (by exact (aI (by exact tI) tI)) (by exact aI (aI rfl (an am.nil)) tI) (by exact rfl) (by exact (Nm.nv Nm.nil)) (by exact (aA.nv aA.nil)) (by exact Tw (by omega) (by omega)) (by exact (bb.nv bb.nil)) (fun x hx => hx.elim) (by exact lc) (by exact (aI (.inl rfl) tI)) (by exact ai.nil) (by exact lc) rfl ?_
 exact DA
def Ty {x : List Ws} {k : Int} (h0k : 0 ≤ k) (hbk : (aj cU x k).2 ≤ 4611686018427387904) : hM prog 131 false [sl bS (x.map (aO ay aa aa aB aa))] [sl bS ((aj cU x k).1.map (aO ay aa aa aB aa))] [(false, [val (vI k)])] (vI (aj cU x k).2) := by
 refine jg func131 rfl (nl rfl) (hJ (ao.cons (bor_val _) ao.nil) hI) ?_
 intro us h0 w0 Fz0 hus
 obtain ⟨u0, rfl⟩ := nA hus
 by_cases hx : x = []
 subst hx
 refine oa ?_
 rintro _ _
 refine mG ?_
 refine rA ?_ (x := lN bI)
 exact nE
 refine ns (s := 0) (D := 999) (E := 108) (e := 10) (u := u0) (es := x.map (aO ay aa aa aB aa)) (L := da) (by exact rfl) (by simpa using hx) (by exact rfl) (by exact rfl) (fun x hx => hx.elim) (by exact aI (.inl rfl) (aI (.inr (RV.lcl_sv (ai.cons lcl_val ai.nil))) tI)) tI (ai.map fun x => (ai.cons lcl_val (ai.cons lcl_val (ai.cons (lcl_own (ai.map fun x => (ai.cons lcl_val (ai.cons lcl_val (ai.cons lcl_val ai.nil))))) (ai.cons (lcl_own (ai.map fun x => (ai.cons lcl_val ai.nil))) (ai.cons lcl_val (ai.cons (lcl_own (ai.map fun x => (ai.cons lcl_val ai.nil))) (ai.cons lcl_val (ai.cons lcl_val (ai.cons lcl_val (ai.cons (lcl_own (ai.map fun x => (ai.cons lcl_val (ai.cons (lcl_own (ai.map fun x => (ai.cons lcl_val ai.nil))) ai.nil)))) ai.nil))))))))))) fun cp jk hl0 hcp hjk => ?_
 have hlm : (x.map (aO ay aa aa aB aa)).length = x.length := ar _
 rw [hlm] at hl0 hcp
 have hmono := ip pI x
 have hmono0 := fun i => bm pI (x.take i) k
 refine ob ?_
 refine sL [0, 4] [] (fun i : Nat => i ≤ x.length) (fun i : Nat => [(1, RV.int (aj cU (x.take i) k).2), (5, RV.int (i : Int))]) (fun i : Nat => [(999, (108, (((aj cU (x.take i) k).1 ++ x.drop i).map (aO ay aa aa aB aa)).flatten ++ jk.map val))]) (fun i : Nat => x.length - i) 0 (by omega) (by exact aI (by exact rfl) (aI (by exact rfl) tI)) (by exact aI (by exact congrArg (fun z => some (108, z)) nz) tI) ?_
 rintro i hi
 refine od ?_
 refine rA ?_ (x := np (by decide) bI)
 refine rA ?_ (x := cy)
 refine sc (fun hba => ?_) (fun hba => ?_)
 have hlt : i < x.length := by omega
 have hk0 := hmono0 i
 have hk1 := hmono (i + 1) k
 rw [et hlt] at hk1
 dsimp only at hk1
 have hm0 := bm jP x[i].Wt.Wu (((aj cU (x.take i) k).2 + 1) + 1)
 have hm1 := bm cT x[i].Wt.Out (aj bw x[i].Wt.Wu (((aj cU (x.take i) k).2 + 1) + 1)).2
 have hm2 := bm cT x[i].WB ((aj aQ x[i].Wt.Out (aj bw x[i].Wt.Wu (((aj cU (x.take i) k).2 + 1) + 1)).2).2 + 1)
 have hm3 := bm lM x[i].Rows ((((aj aQ x[i].WB ((aj aQ x[i].Wt.Out (aj bw x[i].Wt.Wu (((aj cU (x.take i) k).2 + 1) + 1)).2).2 + 1)).2 + 1) + 1) + 1)
 simp only [cU] at hk1
 refine bV (d := 999) (by exact rfl) (nu hlt) ?_
 have hA := ny (f := cU) (c := (aO ay aa aa aB aa)) (e := 10) (k := k) (fun _ => rfl) (Nat.le_of_lt hlt)
 refine md (d := 999) (ms := [val _, val _, sl _ _, sl _ _, val _, sl _ _, val _, val _, val _, sl _ _]) (by exact rfl) fun us hus => ?_
 obtain ⟨v0, v1, v2, v3, v4, v5, v6, v7, v8, v9, rfl⟩ := Am hus
 refine cF ?_
 refine sO [(0, _), (1, _), (4, _), (5, _)] [(999, (108, _ ++ ([nv _ (val _), nv _ (val _), nv _ (sl _ _), nv _ (sl _ _), nv _ (val _), nv _ (sl _ _), nv _ (val _), nv _ (val _), nv _ (val _), nv _ (sl _ _)] ++ _)))] ?_
 refine pt ?_
 refine qI ?_
 refine rA ?_ (x := lF eR)
 refine rA ?_ (x := lF e8)
 refine qH ?_
 refine sO [(0, _), (1, _), (4, _), (5, _)] [(999, (108, _ ++ ([val _, nv _ (val _), nv _ (sl _ _), nv _ (sl _ _), nv _ (val _), nv _ (sl _ _), nv _ (val _), nv _ (val _), nv _ (val _), nv _ (sl _ _)] ++ _)))] ?_
 refine pw ?_
 refine qI ?_
 refine rA ?_ (x := lF eR)
 refine rA ?_ (x := lF i5)
 refine uU ?_
 refine sO [(0, _), (1, _), (4, _), (5, _)] [(999, (108, _ ++ ([val _, val _, nv _ (sl _ _), nv _ (sl _ _), nv _ (val _), nv _ (sl _ _), nv _ (val _), nv _ (val _), nv _ (val _), nv _ (sl _ _)] ++ _)))] ?_
 refine eP ?_
 refine nX ?_
 refine aN (by exact ⟨rfl, ⟨⟩⟩) (by exact tI) (ax.of rfl (bc (.inl rfl) (by decide) (by exact Cp.nm Cp.hdr))) aH ?_
 refine aN (by exact ⟨rfl, ⟨⟩⟩) (by exact tI) (ax.of rfl (bc (.inl rfl) (by decide) (by exact Cp.sc))) aH ?_
 refine aN (by exact ⟨rfl, rfl, ⟨⟩⟩) (by exact tI) (ax.of rfl (ee (by decide) bI (by exact tI) (by exact rfl) (by omega))) aH ?_
 refine aN (by exact ⟨rfl, ⟨⟩⟩) (by exact tI) (ax.of rfl (dQ (by decide) eR)) aH ?_
 refine aN (by exact ⟨rfl, ⟨⟩⟩) (by exact tI) (ax.of rfl (dQ (by decide) i6)) aH ?_
 refine aN (by exact ⟨rfl, ⟨⟩⟩) (by exact ⟨rfl, ⟨⟩⟩) (ax.of rfl (fZ (o := 2) (qs := [val _]) (by omega) (by decide) i7 (fun _ => rfl) (by exact nl rfl) (by exact (am.cons bH am.nil)) (by exact (ao.cons (bor_val _) ao.nil)))) aH ?_
 refine aN (by exact ⟨rfl, ⟨⟩⟩) (by exact tI) (ax.of rfl (bc (.inl rfl) (by decide) (by exact Cp.sc))) aH ?_
 refine d3 (l := [(0, RV.nm _ (RV.hdr 999 _ _)), (1, RV.sv false [val _]), (4, RV.sv false [val _]), (5, RV.sv false [val _]), (28, RV.hdr 999 _ _), (29, RV.sv false [val _]), (30, RV.ptr 999 _), (31, RV.ptr 999 _), (32, RV.ptr 999 _), (33, RV.sv false [val _]), (34, RV.sv false [val _])]) (b := [(999, (108, _ ++ ([val _, val _, nv _ (sl _ _), nv _ (sl _ _), nv _ (val _), nv _ (sl _ _), nv _ (val _), nv _ (val _), nv _ (val _), nv _ (sl _ _)] ++ _)))]) (by exact ⟨rfl, rfl, rfl, rfl, rfl, rfl, rfl, rfl, rfl, rfl, rfl, ⟨⟩⟩) (by exact ⟨rfl, ⟨⟩⟩) ?_
 refine jI (bx := 999) (L := da) (pre := [val _, val _]) (ms := [nv _ (sl _ _)]) (post := [nv _ (sl _ _), nv _ (val _), nv _ (sl _ _), nv _ (val _), nv _ (val _), nv _ (val _), nv _ (sl _ _)]) (qr := [(false, [val _])]) (as_ := [(false, [val _])]) (by decide) AB rfl (by exact rfl) (by exact (Nm.val Nm.nil)) (by exact ⟨rfl, ⟨⟩⟩) (by exact (aI (by exact tI) tI)) (by exact aI (aI rfl (an am.nil)) tI) (by exact rfl) (by exact (Nm.nv Nm.nil)) (by exact (aA.nv aA.nil)) (by exact Bc (by omega) (by omega)) (by exact (bb.nv bb.nil)) (fun x hx => hx.elim) (by exact lc) (by exact (aI (.inl rfl) tI)) (by exact lc) (by exact lc) (by exact lc) (by exact lc) rfl ?_
 refine aN (by exact ⟨rfl, ⟨⟩⟩) (by exact tI) (ax.of rfl (bc (.inr rfl) (by decide) (by exact Cp.sc))) aH ?_
 refine dg ?_
 refine nX ?_
 refine aN (by exact ⟨rfl, ⟨⟩⟩) (by exact tI) (ax.of rfl (bc (.inl rfl) (by decide) (by exact Cp.nm Cp.hdr))) aH ?_
 refine aN (by exact ⟨rfl, ⟨⟩⟩) (by exact tI) (ax.of rfl (bc (.inl rfl) (by decide) (by exact Cp.sc))) aH ?_
 refine aN (by exact ⟨rfl, rfl, ⟨⟩⟩) (by exact tI) (ax.of rfl (ee (by decide) bI (by exact tI) (by exact rfl) (by omega))) aH ?_
 refine aN (by exact ⟨rfl, ⟨⟩⟩) (by exact tI) (ax.of rfl (dQ (by decide) eR)) aH ?_
 refine aN (by exact ⟨rfl, ⟨⟩⟩) (by exact tI) (ax.of rfl (dQ (by decide) jv)) aH ?_
 refine aN (by exact ⟨rfl, ⟨⟩⟩) (by exact ⟨rfl, ⟨⟩⟩) (ax.of rfl (fZ (o := 3) (qs := [val _]) (by omega) (by decide) bq (fun _ => rfl) (by exact nl rfl) (by exact (am.cons bH am.nil)) (by exact (ao.cons (bor_val _) ao.nil)))) aH ?_
 refine aN (by exact ⟨rfl, ⟨⟩⟩) (by exact tI) (ax.of rfl (bc (.inl rfl) (by decide) (by exact Cp.sc))) aH ?_
 refine d3 (l := [(0, RV.nm _ (RV.hdr 999 _ _)), (1, RV.sv false [val _]), (4, RV.sv false [val _]), (5, RV.sv false [val _]), (36, RV.hdr 999 _ _), (37, RV.sv false [val _]), (38, RV.ptr 999 _), (39, RV.ptr 999 _), (40, RV.ptr 999 _), (41, RV.sv false [val _]), (42, RV.sv false [val _])]) (b := [(999, (108, _ ++ ([val _, val _, nv _ (sl _ _), nv _ (sl _ _), nv _ (val _), nv _ (sl _ _), nv _ (val _), nv _ (val _), nv _ (val _), nv _ (sl _ _)] ++ _)))]) (by exact ⟨rfl, rfl, rfl, rfl, rfl, rfl, rfl, rfl, rfl, rfl, rfl, ⟨⟩⟩) (by exact ⟨rfl, ⟨⟩⟩) ?_
 refine jI (bx := 999) (L := da) (pre := [val _, val _, nv _ (sl _ _)]) (ms := [nv _ (sl _ _)]) (post := [nv _ (val _), nv _ (sl _ _), nv _ (val _), nv _ (val _), nv _ (val _), nv _ (sl _ _)]) (qr := [(false, [val _])]) (as_ := [(false, [val _])]) (by decide) kO rfl (by exact rfl) (by exact (Nm.val Nm.nil)) (by exact ⟨rfl, ⟨⟩⟩) (by exact (aI (by exact tI) tI)) (by exact aI (aI rfl (an am.nil)) tI) (by exact rfl) (by exact (Nm.nv Nm.nil)) (by exact (aA.nv aA.nil)) (by exact lb (by omega) (by omega)) (by exact (bb.nv bb.nil)) (fun x hx => hx.elim) (by exact lc) (by exact (aI (.inl rfl) tI)) (by exact lc) (by exact lc) (by exact lc) (by exact lc) rfl ?_
 refine aN (by exact ⟨rfl, ⟨⟩⟩) (by exact tI) (ax.of rfl (bc (.inr rfl) (by decide) (by exact Cp.sc))) aH ?_
 refine dg ?_
 refine pf ?_
 refine qI ?_
 refine rA ?_ (x := lF lP)
 refine Ii ?_
 refine sO [(0, _), (1, _), (4, _), (5, _)] [(999, (108, _ ++ ([val _, val _, nv _ (sl _ _), nv _ (sl _ _), val _, nv _ (sl _ _), nv _ (val _), nv _ (val _), nv _ (val _), nv _ (sl _ _)] ++ _)))] ?_
 refine eP ?_
 refine nX ?_
 refine aN (by exact ⟨rfl, ⟨⟩⟩) (by exact tI) (ax.of rfl (bc (.inl rfl) (by decide) (by exact Cp.nm Cp.hdr))) aH ?_
 refine aN (by exact ⟨rfl, ⟨⟩⟩) (by exact tI) (ax.of rfl (bc (.inl rfl) (by decide) (by exact Cp.sc))) aH ?_
 refine aN (by exact ⟨rfl, rfl, ⟨⟩⟩) (by exact tI) (ax.of rfl (ee (by decide) bI (by exact tI) (by exact rfl) (by omega))) aH ?_
 refine aN (by exact ⟨rfl, ⟨⟩⟩) (by exact tI) (ax.of rfl (dQ (by decide) gD)) aH ?_
 refine aN (by exact ⟨rfl, ⟨⟩⟩) (by exact ⟨rfl, ⟨⟩⟩) (ax.of rfl (fZ (o := 5) (qs := [val _]) (by omega) (by decide) bq (fun _ => rfl) (by exact nl rfl) (by exact (am.cons bH am.nil)) (by exact (ao.cons (bor_val _) ao.nil)))) aH ?_
 refine aN (by exact ⟨rfl, ⟨⟩⟩) (by exact tI) (ax.of rfl (bc (.inl rfl) (by decide) (by exact Cp.sc))) aH ?_
 refine d3 (l := [(0, RV.nm _ (RV.hdr 999 _ _)), (1, RV.sv false [val _]), (4, RV.sv false [val _]), (5, RV.sv false [val _]), (51, RV.hdr 999 _ _), (52, RV.sv false [val _]), (53, RV.ptr 999 _), (54, RV.ptr 999 _), (55, RV.sv false [val _]), (56, RV.sv false [val _])]) (b := [(999, (108, _ ++ ([val _, val _, nv _ (sl _ _), nv _ (sl _ _), val _, nv _ (sl _ _), nv _ (val _), nv _ (val _), nv _ (val _), nv _ (sl _ _)] ++ _)))]) (by exact ⟨rfl, rfl, rfl, rfl, rfl, rfl, rfl, rfl, rfl, rfl, ⟨⟩⟩) (by exact ⟨rfl, ⟨⟩⟩) ?_
 refine jI (bx := 999) (L := da) (pre := [val _, val _, nv _ (sl _ _), nv _ (sl _ _), val _]) (ms := [nv _ (sl _ _)]) (post := [nv _ (val _), nv _ (val _), nv _ (val _), nv _ (sl _ _)]) (qr := [(false, [val _])]) (as_ := [(false, [val _])]) (by decide) kO rfl (by exact rfl) (by exact (Nm.val Nm.nil)) (by exact ⟨rfl, ⟨⟩⟩) (by exact (aI (by exact tI) tI)) (by exact aI (aI rfl (an am.nil)) tI) (by exact rfl) (by exact (Nm.nv Nm.nil)) (by exact (aA.nv aA.nil)) (by exact lb (by omega) (by omega)) (by exact (bb.nv bb.nil)) (fun x hx => hx.elim) (by exact lc) (by exact (aI (.inl rfl) tI)) (by exact lc) (by exact lc) (by exact lc) (by exact lc) rfl ?_
 refine aN (by exact ⟨rfl, ⟨⟩⟩) (by exact tI) (ax.of rfl (bc (.inr rfl) (by decide) (by exact Cp.sc))) aH ?_
 refine dg ?_
 refine pf ?_
 refine qI ?_
 refine rA ?_ (x := lF kP)
 refine rA ?_ (x := fP (o := 6) (ag := false) (vs := [val _]) (by omega) au (by exact tI) (by exact rfl) (by exact nl rfl))
 refine aP ?_
 refine sO [(0, _), (1, _), (4, _), (5, _)] [(999, (108, _ ++ ([val _, val _, nv _ (sl _ _), nv _ (sl _ _), val _, nv _ (sl _ _), val _, nv _ (val _), nv _ (val _), nv _ (sl _ _)] ++ _)))] ?_
 refine pw ?_
 refine qI ?_
 refine rA ?_ (x := lF jp)
 refine rA ?_ (x := fP (o := 7) (ag := false) (vs := [val _]) (by omega) au (by exact tI) (by exact rfl) (by exact nl rfl))
 refine aP ?_
 refine sO [(0, _), (1, _), (4, _), (5, _)] [(999, (108, _ ++ ([val _, val _, nv _ (sl _ _), nv _ (sl _ _), val _, nv _ (sl _ _), val _, val _, nv _ (val _), nv _ (sl _ _)] ++ _)))] ?_
 refine pw ?_
 refine qI ?_
 refine rA ?_ (x := lF kQ)
 refine rA ?_ (x := fP (o := 8) (ag := false) (vs := [val _]) (by omega) au (by exact tI) (by exact rfl) (by exact nl rfl))
 refine aP ?_
 refine sO [(0, _), (1, _), (4, _), (5, _)] [(999, (108, _ ++ ([val _, val _, nv _ (sl _ _), nv _ (sl _ _), val _, nv _ (sl _ _), val _, val _, val _, nv _ (sl _ _)] ++ _)))] ?_
 refine eP ?_
 refine sD ?_
 refine aN (by exact ⟨rfl, ⟨⟩⟩) (by exact tI) (ax.of rfl (bc (.inl rfl) (by decide) (by exact Cp.nm Cp.hdr))) aH ?_
 refine aN (by exact ⟨rfl, ⟨⟩⟩) (by exact tI) (ax.of rfl (bc (.inl rfl) (by decide) (by exact Cp.sc))) aH ?_
 refine aN (by exact ⟨rfl, rfl, ⟨⟩⟩) (by exact tI) (ax.of rfl (ee (by decide) bI (by exact tI) (by exact rfl) (by omega))) aH ?_
 refine aN (by exact ⟨rfl, ⟨⟩⟩) (by exact tI) (ax.of rfl (dQ (by decide) jq)) aH ?_
 refine aN (by exact ⟨rfl, ⟨⟩⟩) (by exact ⟨rfl, ⟨⟩⟩) (ax.of rfl (fZ (o := 9) (qs := [val _]) (by omega) (by decide) fI (fun _ => rfl) (by exact nl rfl) (by exact (am.cons bH am.nil)) (by exact (ao.cons (bor_val _) ao.nil)))) aH ?_
 refine aN (by exact ⟨rfl, ⟨⟩⟩) (by exact tI) (ax.of rfl (bc (.inl rfl) (by decide) (by exact Cp.sc))) aH ?_
 refine d3 (l := [(0, RV.nm _ (RV.hdr 999 _ _)), (1, RV.sv false [val _]), (4, RV.sv false [val _]), (5, RV.sv false [val _]), (79, RV.hdr 999 _ _), (80, RV.sv false [val _]), (81, RV.ptr 999 _), (82, RV.ptr 999 _), (83, RV.sv false [val _]), (84, RV.sv false [val _])]) (b := [(999, (108, _ ++ ([val _, val _, nv _ (sl _ _), nv _ (sl _ _), val _, nv _ (sl _ _), val _, val _, val _, nv _ (sl _ _)] ++ _)))]) (by exact ⟨rfl, rfl, rfl, rfl, rfl, rfl, rfl, rfl, rfl, rfl, ⟨⟩⟩) (by exact ⟨rfl, ⟨⟩⟩) ?_
 refine jI (bx := 999) (L := da) (pre := [val _, val _, nv _ (sl _ _), nv _ (sl _ _), val _, nv _ (sl _ _), val _, val _, val _]) (ms := [nv _ (sl _ _)]) (post := []) (qr := [(false, [val _])]) (as_ := [(false, [val _])]) (by decide) Jz rfl (by exact rfl) (by exact (Nm.val Nm.nil)) (by exact ⟨rfl, ⟨⟩⟩) (by exact (aI (by exact tI) tI)) (by exact aI (aI rfl (an am.nil)) tI) (by exact rfl) (by exact (Nm.nv Nm.nil)) (by exact (aA.nv aA.nil)) (by exact K4 (by omega) (by omega)) (by exact (bb.nv bb.nil)) (fun x hx => hx.elim) (by exact lc) (by exact (aI (.inl rfl) tI)) (by exact lc) (by exact lc) (by exact ai.nil) (by exact lc) rfl ?_
 refine aN (by exact ⟨rfl, ⟨⟩⟩) (by exact tI) (ax.of rfl (bc (.inr rfl) (by decide) (by exact Cp.sc))) aH ?_
 refine dg ?_
 refine qk (d := 999) (by exact rfl) (by exact (aA.same (aA.same (aA.nv (aA.nv (aA.same (aA.nv (aA.same (aA.same (aA.same (aA.nv aA.nil))))))))))) ?_
 refine sO [(0, _), (1, _), (4, _), (5, _)] [(999, (108, _ ++ ([val _, val _, sl _ _, sl _ _, val _, sl _ _, val _, val _, val _, sl _ _] ++ _)))] ?_
 refine eP ?_
 refine nx (i + 1) (by omega) (e := (by exact aI (by exact bg (by rw [et hlt]; rfl)) (aI (by exact rfl) tI))) (f := (by exact aI (by exact congrArg (fun z => some (108, z)) (nw hlt rfl)) tI))
 have hend : i = x.length := by omega
 refine bV (d := 999) (by exact rfl) (oE hend) ?_
 refine oD (s := 0) (D := 999) (e := 10) (by exact rfl) (by exact rfl) (by rw [ar, gw, ar]) (by intro c hc; obtain ⟨y, _, rfl⟩ := List.mem_map.1 hc; exact rfl) hjk ?_
 exact oM
def Tz {x : List cu} {k : Int} (h0k : 0 ≤ k) (hbk : (aj dL x k).2 ≤ 4611686018427387904) : hM prog 132 false [sl bM (x.map (aZ ay aa aB aa))] [sl bM ((aj dL x k).1.map (aZ ay aa aB aa))] [(false, [val (vI k)])] (vI (aj dL x k).2) := by
 refine jg func132 rfl (nl rfl) (hJ (ao.cons (bor_val _) ao.nil) hI) ?_
 intro us h0 w0 Fz0 hus
 obtain ⟨u0, rfl⟩ := nA hus
 by_cases hx : x = []
 subst hx
 refine oa ?_
 rintro _ _
 refine mG ?_
 refine rA ?_ (x := lN ez)
 exact nE
 refine ns (s := 0) (D := 999) (E := 63) (e := 7) (u := u0) (es := x.map (aZ ay aa aB aa)) (L := da) (by exact rfl) (by simpa using hx) (by exact rfl) (by exact rfl) (fun x hx => hx.elim) (by exact aI (.inl rfl) (aI (.inr (RV.lcl_sv (ai.cons lcl_val ai.nil))) tI)) tI (ai.map fun x => (ai.cons lcl_val (ai.cons lcl_val (ai.cons (lcl_own (ai.map fun x => (ai.cons lcl_val (ai.cons lcl_val (ai.cons lcl_val ai.nil))))) (ai.cons (lcl_own (ai.map fun x => (ai.cons lcl_val ai.nil))) (ai.cons lcl_val (ai.cons lcl_val (ai.cons (lcl_own (ai.map fun x => (ai.cons lcl_val (ai.cons (lcl_own (ai.map fun x => (ai.cons lcl_val ai.nil))) ai.nil)))) ai.nil)))))))) fun cp jk hl0 hcp hjk => ?_
 have hlm : (x.map (aZ ay aa aB aa)).length = x.length := ar _
 rw [hlm] at hl0 hcp
 have hmono := ip pJ x
 have hmono0 := fun i => bm pJ (x.take i) k
 refine ob ?_
 refine sL [0, 4] [] (fun i : Nat => i ≤ x.length) (fun i : Nat => [(1, RV.int (aj dL (x.take i) k).2), (5, RV.int (i : Int))]) (fun i : Nat => [(999, (63, (((aj dL (x.take i) k).1 ++ x.drop i).map (aZ ay aa aB aa)).flatten ++ jk.map val))]) (fun i : Nat => x.length - i) 0 (by omega) (by exact aI (by exact rfl) (aI (by exact rfl) tI)) (by exact aI (by exact congrArg (fun z => some (63, z)) nz) tI) ?_
 rintro i hi
 refine od ?_
 refine rA ?_ (x := np (by decide) ez)
 refine rA ?_ (x := cy)
 refine sc (fun hba => ?_) (fun hba => ?_)
 have hlt : i < x.length := by omega
 have hk0 := hmono0 i
 have hk1 := hmono (i + 1) k
 rw [et hlt] at hk1
 dsimp only at hk1
 have hm0 := bm jP x[i].Wt.Wu (((aj dL (x.take i) k).2 + 1) + 1)
 have hm1 := bm cT x[i].Wt.Out (aj bw x[i].Wt.Wu (((aj dL (x.take i) k).2 + 1) + 1)).2
 have hm2 := bm lM x[i].Rows (((aj aQ x[i].Wt.Out (aj bw x[i].Wt.Wu (((aj dL (x.take i) k).2 + 1) + 1)).2).2 + 1) + 1)
 simp only [dL] at hk1
 refine bV (d := 999) (by exact rfl) (nu hlt) ?_
 have hA := ny (f := dL) (c := (aZ ay aa aB aa)) (e := 7) (k := k) (fun _ => rfl) (Nat.le_of_lt hlt)
 refine md (d := 999) (ms := [val _, val _, sl _ _, sl _ _, val _, val _, sl _ _]) (by exact rfl) fun us hus => ?_
 obtain ⟨v0, v1, v2, v3, v4, v5, v6, rfl⟩ := NP hus
 refine cF ?_
 refine sO [(0, _), (1, _), (4, _), (5, _)] [(999, (63, _ ++ ([nv _ (val _), nv _ (val _), nv _ (sl _ _), nv _ (sl _ _), nv _ (val _), nv _ (val _), nv _ (sl _ _)] ++ _)))] ?_
 refine pt ?_
 refine vd ?_
 refine rA ?_ (x := lF lU)
 refine rA ?_ (x := lF e8)
 refine qH ?_
 refine sO [(0, _), (1, _), (4, _), (5, _)] [(999, (63, _ ++ ([val _, nv _ (val _), nv _ (sl _ _), nv _ (sl _ _), nv _ (val _), nv _ (val _), nv _ (sl _ _)] ++ _)))] ?_
 refine pw ?_
 refine vd ?_
 refine rA ?_ (x := lF lU)
 refine rA ?_ (x := lF i5)
 refine uU ?_
 refine sO [(0, _), (1, _), (4, _), (5, _)] [(999, (63, _ ++ ([val _, val _, nv _ (sl _ _), nv _ (sl _ _), nv _ (val _), nv _ (val _), nv _ (sl _ _)] ++ _)))] ?_
 refine eP ?_
 refine nX ?_
 refine aN (by exact ⟨rfl, ⟨⟩⟩) (by exact tI) (ax.of rfl (bc (.inl rfl) (by decide) (by exact Cp.nm Cp.hdr))) aH ?_
 refine aN (by exact ⟨rfl, ⟨⟩⟩) (by exact tI) (ax.of rfl (bc (.inl rfl) (by decide) (by exact Cp.sc))) aH ?_
 refine aN (by exact ⟨rfl, rfl, ⟨⟩⟩) (by exact tI) (ax.of rfl (ee (by decide) ez (by exact tI) (by exact rfl) (by omega))) aH ?_
 refine aN (by exact ⟨rfl, ⟨⟩⟩) (by exact tI) (ax.of rfl (dQ (by decide) lU)) aH ?_
 refine aN (by exact ⟨rfl, ⟨⟩⟩) (by exact tI) (ax.of rfl (dQ (by decide) i6)) aH ?_
 refine aN (by exact ⟨rfl, ⟨⟩⟩) (by exact ⟨rfl, ⟨⟩⟩) (ax.of rfl (fZ (o := 2) (qs := [val _]) (by omega) (by decide) i7 (fun _ => rfl) (by exact nl rfl) (by exact (am.cons bH am.nil)) (by exact (ao.cons (bor_val _) ao.nil)))) aH ?_
 refine aN (by exact ⟨rfl, ⟨⟩⟩) (by exact tI) (ax.of rfl (bc (.inl rfl) (by decide) (by exact Cp.sc))) aH ?_
 refine d3 (l := [(0, RV.nm _ (RV.hdr 999 _ _)), (1, RV.sv false [val _]), (4, RV.sv false [val _]), (5, RV.sv false [val _]), (28, RV.hdr 999 _ _), (29, RV.sv false [val _]), (30, RV.ptr 999 _), (31, RV.ptr 999 _), (32, RV.ptr 999 _), (33, RV.sv false [val _]), (34, RV.sv false [val _])]) (b := [(999, (63, _ ++ ([val _, val _, nv _ (sl _ _), nv _ (sl _ _), nv _ (val _), nv _ (val _), nv _ (sl _ _)] ++ _)))]) (by exact ⟨rfl, rfl, rfl, rfl, rfl, rfl, rfl, rfl, rfl, rfl, rfl, ⟨⟩⟩) (by exact ⟨rfl, ⟨⟩⟩) ?_
 refine jI (bx := 999) (L := da) (pre := [val _, val _]) (ms := [nv _ (sl _ _)]) (post := [nv _ (sl _ _), nv _ (val _), nv _ (val _), nv _ (sl _ _)]) (qr := [(false, [val _])]) (as_ := [(false, [val _])]) (by decide) AB rfl (by exact rfl) (by exact (Nm.val Nm.nil)) (by exact ⟨rfl, ⟨⟩⟩) (by exact (aI (by exact tI) tI)) (by exact aI (aI rfl (an am.nil)) tI) (by exact rfl) (by exact (Nm.nv Nm.nil)) (by exact (aA.nv aA.nil)) (by exact Bc (by omega) (by omega)) (by exact (bb.nv bb.nil)) (fun x hx => hx.elim) (by exact lc) (by exact (aI (.inl rfl) tI)) (by exact lc) (by exact lc) (by exact lc) (by exact lc) rfl ?_
 refine aN (by exact ⟨rfl, ⟨⟩⟩) (by exact tI) (ax.of rfl (bc (.inr rfl) (by decide) (by exact Cp.sc))) aH ?_
 refine dg ?_
 refine nX ?_
 refine aN (by exact ⟨rfl, ⟨⟩⟩) (by exact tI) (ax.of rfl (bc (.inl rfl) (by decide) (by exact Cp.nm Cp.hdr))) aH ?_
 refine aN (by exact ⟨rfl, ⟨⟩⟩) (by exact tI) (ax.of rfl (bc (.inl rfl) (by decide) (by exact Cp.sc))) aH ?_
 refine aN (by exact ⟨rfl, rfl, ⟨⟩⟩) (by exact tI) (ax.of rfl (ee (by decide) ez (by exact tI) (by exact rfl) (by omega))) aH ?_
 refine aN (by exact ⟨rfl, ⟨⟩⟩) (by exact tI) (ax.of rfl (dQ (by decide) lU)) aH ?_
 refine aN (by exact ⟨rfl, ⟨⟩⟩) (by exact tI) (ax.of rfl (dQ (by decide) jv)) aH ?_
 refine aN (by exact ⟨rfl, ⟨⟩⟩) (by exact ⟨rfl, ⟨⟩⟩) (ax.of rfl (fZ (o := 3) (qs := [val _]) (by omega) (by decide) bq (fun _ => rfl) (by exact nl rfl) (by exact (am.cons bH am.nil)) (by exact (ao.cons (bor_val _) ao.nil)))) aH ?_
 refine aN (by exact ⟨rfl, ⟨⟩⟩) (by exact tI) (ax.of rfl (bc (.inl rfl) (by decide) (by exact Cp.sc))) aH ?_
 refine d3 (l := [(0, RV.nm _ (RV.hdr 999 _ _)), (1, RV.sv false [val _]), (4, RV.sv false [val _]), (5, RV.sv false [val _]), (36, RV.hdr 999 _ _), (37, RV.sv false [val _]), (38, RV.ptr 999 _), (39, RV.ptr 999 _), (40, RV.ptr 999 _), (41, RV.sv false [val _]), (42, RV.sv false [val _])]) (b := [(999, (63, _ ++ ([val _, val _, nv _ (sl _ _), nv _ (sl _ _), nv _ (val _), nv _ (val _), nv _ (sl _ _)] ++ _)))]) (by exact ⟨rfl, rfl, rfl, rfl, rfl, rfl, rfl, rfl, rfl, rfl, rfl, ⟨⟩⟩) (by exact ⟨rfl, ⟨⟩⟩) ?_
 refine jI (bx := 999) (L := da) (pre := [val _, val _, nv _ (sl _ _)]) (ms := [nv _ (sl _ _)]) (post := [nv _ (val _), nv _ (val _), nv _ (sl _ _)]) (qr := [(false, [val _])]) (as_ := [(false, [val _])]) (by decide) kO rfl (by exact rfl) (by exact (Nm.val Nm.nil)) (by exact ⟨rfl, ⟨⟩⟩) (by exact (aI (by exact tI) tI)) (by exact aI (aI rfl (an am.nil)) tI) (by exact rfl) (by exact (Nm.nv Nm.nil)) (by exact (aA.nv aA.nil)) (by exact lb (by omega) (by omega)) (by exact (bb.nv bb.nil)) (fun x hx => hx.elim) (by exact lc) (by exact (aI (.inl rfl) tI)) (by exact lc) (by exact lc) (by exact lc) (by exact lc) rfl ?_
 refine aN (by exact ⟨rfl, ⟨⟩⟩) (by exact tI) (ax.of rfl (bc (.inr rfl) (by decide) (by exact Cp.sc))) aH ?_
 refine dg ?_
 refine pf ?_
 refine vd ?_
 refine rA ?_ (x := lF pO)
 refine Ii ?_
 refine sO [(0, _), (1, _), (4, _), (5, _)] [(999, (63, _ ++ ([val _, val _, nv _ (sl _ _), nv _ (sl _ _), val _, nv _ (val _), nv _ (sl _ _)] ++ _)))] ?_
 refine pw ?_
 refine vd ?_
 refine rA ?_ (x := lF pP)
 refine rA ?_ (x := fP (o := 5) (ag := false) (vs := [val _]) (by omega) au (by exact tI) (by exact rfl) (by exact nl rfl))
 refine aP ?_
 refine sO [(0, _), (1, _), (4, _), (5, _)] [(999, (63, _ ++ ([val _, val _, nv _ (sl _ _), nv _ (sl _ _), val _, val _, nv _ (sl _ _)] ++ _)))] ?_
 refine eP ?_
 refine sD ?_
 refine aN (by exact ⟨rfl, ⟨⟩⟩) (by exact tI) (ax.of rfl (bc (.inl rfl) (by decide) (by exact Cp.nm Cp.hdr))) aH ?_
 refine aN (by exact ⟨rfl, ⟨⟩⟩) (by exact tI) (ax.of rfl (bc (.inl rfl) (by decide) (by exact Cp.sc))) aH ?_
 refine aN (by exact ⟨rfl, rfl, ⟨⟩⟩) (by exact tI) (ax.of rfl (ee (by decide) ez (by exact tI) (by exact rfl) (by omega))) aH ?_
 refine aN (by exact ⟨rfl, ⟨⟩⟩) (by exact tI) (ax.of rfl (dQ (by decide) lV)) aH ?_
 refine aN (by exact ⟨rfl, ⟨⟩⟩) (by exact ⟨rfl, ⟨⟩⟩) (ax.of rfl (fZ (o := 6) (qs := [val _]) (by omega) (by decide) fI (fun _ => rfl) (by exact nl rfl) (by exact (am.cons bH am.nil)) (by exact (ao.cons (bor_val _) ao.nil)))) aH ?_
 refine aN (by exact ⟨rfl, ⟨⟩⟩) (by exact tI) (ax.of rfl (bc (.inl rfl) (by decide) (by exact Cp.sc))) aH ?_
 refine d3 (l := [(0, RV.nm _ (RV.hdr 999 _ _)), (1, RV.sv false [val _]), (4, RV.sv false [val _]), (5, RV.sv false [val _]), (58, RV.hdr 999 _ _), (59, RV.sv false [val _]), (60, RV.ptr 999 _), (61, RV.ptr 999 _), (62, RV.sv false [val _]), (63, RV.sv false [val _])]) (b := [(999, (63, _ ++ ([val _, val _, nv _ (sl _ _), nv _ (sl _ _), val _, val _, nv _ (sl _ _)] ++ _)))]) (by exact ⟨rfl, rfl, rfl, rfl, rfl, rfl, rfl, rfl, rfl, rfl, ⟨⟩⟩) (by exact ⟨rfl, ⟨⟩⟩) ?_
 refine jI (bx := 999) (L := da) (pre := [val _, val _, nv _ (sl _ _), nv _ (sl _ _), val _, val _]) (ms := [nv _ (sl _ _)]) (post := []) (qr := [(false, [val _])]) (as_ := [(false, [val _])]) (by decide) Jz rfl (by exact rfl) (by exact (Nm.val Nm.nil)) (by exact ⟨rfl, ⟨⟩⟩) (by exact (aI (by exact tI) tI)) (by exact aI (aI rfl (an am.nil)) tI) (by exact rfl) (by exact (Nm.nv Nm.nil)) (by exact (aA.nv aA.nil)) (by exact K4 (by omega) (by omega)) (by exact (bb.nv bb.nil)) (fun x hx => hx.elim) (by exact lc) (by exact (aI (.inl rfl) tI)) (by exact lc) (by exact lc) (by exact ai.nil) (by exact lc) rfl ?_
 refine aN (by exact ⟨rfl, ⟨⟩⟩) (by exact tI) (ax.of rfl (bc (.inr rfl) (by decide) (by exact Cp.sc))) aH ?_
 refine dg ?_
 refine qk (d := 999) (by exact rfl) (by exact (aA.same (aA.same (aA.nv (aA.nv (aA.same (aA.same (aA.nv aA.nil)))))))) ?_
 refine sO [(0, _), (1, _), (4, _), (5, _)] [(999, (63, _ ++ ([val _, val _, sl _ _, sl _ _, val _, val _, sl _ _] ++ _)))] ?_
 refine eP ?_
 refine nx (i + 1) (by omega) (e := (by exact aI (by exact bg (by rw [et hlt]; rfl)) (aI (by exact rfl) tI))) (f := (by exact aI (by exact congrArg (fun z => some (63, z)) (nw hlt rfl)) tI))
 have hend : i = x.length := by omega
 refine bV (d := 999) (by exact rfl) (oE hend) ?_
 refine oD (s := 0) (D := 999) (e := 7) (by exact rfl) (by exact rfl) (by rw [ar, gw, ar]) (by intro c hc; obtain ⟨y, _, rfl⟩ := List.mem_map.1 hc; exact rfl) hjk ?_
 exact oM
def K5 {x : aL} {k : Int} (h0k : 0 ≤ k) (hbk : (gm x k).2 ≤ 4611686018427387904) : hM prog 43 true (As bo aS aa aa bS ay aa aa aB aa bM ay aa aB aa bP aa aa aa x) (As bo aS aa aa bS ay aa aa aB aa bM ay aa aB aa bP aa aa aa (gm x k).1) [(false, [val (vI k)])] (vI (gm x k).2) := by
 refine jg func43 rfl (nl rfl) (hJ (ao.cons (bor_val _) ao.nil) hI) ?_
 intro us h0 w0 Fz0 hus
 obtain ⟨v0, v1, v2, v3, v4, v5, v6, v7, rfl⟩ := th hus
 simp only [gm] at hbk
 have hm0 := bm mM x.Store.Wr k
 have hm1 := bm cT x.Order (aj cj x.Store.Wr k).2
 have hm2 := bm pI x.Ws (aj aQ x.Order (aj cj x.Store.Wr k).2).2
 have hm3 := bm pJ x.Done (aj cU x.Ws (aj aQ x.Order (aj cj x.Store.Wr k).2).2).2
 have hm4 := bm pG x.WE (aj dL x.Done (aj cU x.Ws (aj aQ x.Order (aj cj x.Store.Wr k).2).2).2).2
 have hv0 : (fE x.Store k).2 = (aj cj x.Store.Wr k).2 := rfl
 refine sS [0, 1] [] ?_
 refine rX ?_ (x := (cI (ag := true) (cs := [nv _ (sl _ _), nv _ (val _), nv _ (val _), nv _ (sl _ _), nv _ (sl _ _), nv _ (sl _ _), nv _ (sl _ _), nv _ (val _)]) (by decide) (by exact tI)))
 refine dz ?_
 refine sO [(1, _), (2, _), (4, _)] [(2, (32, [nv _ (sl _ _), nv _ (val _), nv _ (val _), nv _ (sl _ _), nv _ (sl _ _), nv _ (sl _ _), nv _ (sl _ _), nv _ (val _)]))] ?_
 refine gv ?_
 refine aN (by exact ⟨rfl, ⟨⟩⟩) (by exact tI) (ax.of rfl (dQ (by decide) gE)) aH ?_
 refine aN (by exact ⟨rfl, ⟨⟩⟩) (by exact ⟨rfl, ⟨⟩⟩) (ax.of rfl (df (qs := [val _, val _]) (by decide) dv (fun h => nomatch h) (by exact nl rfl) (by exact (am.cons bH (am.cons bH am.nil))) (by exact (ao.cons (bor_val _) (ao.cons (bor_val _) ao.nil))))) aH ?_
 refine aN (by exact ⟨rfl, ⟨⟩⟩) (by exact tI) (ax.of rfl (bc (.inl rfl) (by decide) (by exact Cp.sc))) aH ?_
 refine d3 (l := [(1, RV.sv false [val _]), (2, RV.ptr 2 0), (4, RV.sv false [val _]), (5, RV.ptr 2 0), (6, RV.sv true [val _, val _]), (7, RV.sv false [val _])]) (b := [(2, (32, [nv _ (sl _ _), nv _ (val _), nv _ (val _), nv _ (sl _ _), nv _ (sl _ _), nv _ (sl _ _), nv _ (sl _ _), nv _ (val _)]))]) (by exact ⟨rfl, rfl, rfl, rfl, rfl, rfl, ⟨⟩⟩) (by exact ⟨rfl, ⟨⟩⟩) ?_
 refine io (bx := 2) (L := da) (A := []) (ms := [nv _ (sl _ _), nv _ (val _)]) (B := [nv _ (val _), nv _ (sl _ _), nv _ (sl _ _), nv _ (sl _ _), nv _ (sl _ _), nv _ (val _)]) (qr := [(false, [val _])]) (as_ := [(false, [val _])]) (by decide) O0 rfl (by exact rfl) (by exact (Nm.val (Nm.val Nm.nil))) (by exact ⟨rfl, ⟨⟩⟩) (by exact (aI (by exact tI) tI)) (by exact aI (aI rfl (an am.nil)) tI) (by exact rfl) (by exact (Nm.nv (Nm.nv Nm.nil))) (by exact (aA.nv (aA.nv aA.nil))) (by exact Tx (by first | omega | (simp only [fE]; omega)) (by first | omega | (simp only [fE]; omega))) (by exact (bb.nv (bb.nv bb.nil))) (fun x hx => hx.elim) (by exact lc) (by exact (aI (.inl rfl) tI)) (by exact ai.nil) (by exact lc) rfl ?_
 refine aN (by exact ⟨rfl, ⟨⟩⟩) (by exact tI) (ax.of rfl (bc (.inr rfl) (by decide) (by exact Cp.sc))) aH ?_
 refine dg ?_
 refine rf ?_
 refine aN (by exact ⟨rfl, ⟨⟩⟩) (by exact tI) (ax.of rfl (dQ (by decide) lR)) aH ?_
 refine aN (by exact ⟨rfl, ⟨⟩⟩) (by exact ⟨rfl, ⟨⟩⟩) (ax.of rfl (df (qs := [val _]) (by decide) bq (fun _ => rfl) (by exact nl rfl) (by exact (am.cons bH am.nil)) (by exact (ao.cons (bor_val _) ao.nil)))) aH ?_
 refine aN (by exact ⟨rfl, ⟨⟩⟩) (by exact tI) (ax.of rfl (bc (.inl rfl) (by decide) (by exact Cp.sc))) aH ?_
 refine d3 (l := [(1, RV.sv false [val _]), (2, RV.ptr 2 0), (4, RV.sv false [val _]), (9, RV.ptr 2 3), (10, RV.sv false [val _]), (11, RV.sv false [val _])]) (b := [(2, (32, [nv _ (sl _ _), nv _ (val _), nv _ (val _), nv _ (sl _ _), nv _ (sl _ _), nv _ (sl _ _), nv _ (sl _ _), nv _ (val _)]))]) (by exact ⟨rfl, rfl, rfl, rfl, rfl, rfl, ⟨⟩⟩) (by exact ⟨rfl, ⟨⟩⟩) ?_
 refine io (bx := 2) (L := da) (A := [nv _ (sl _ _), nv _ (val _), nv _ (val _)]) (ms := [nv _ (sl _ _)]) (B := [nv _ (sl _ _), nv _ (sl _ _), nv _ (sl _ _), nv _ (val _)]) (qr := [(false, [val _])]) (as_ := [(false, [val _])]) (by decide) kO rfl (by exact rfl) (by exact (Nm.val Nm.nil)) (by exact ⟨rfl, ⟨⟩⟩) (by exact (aI (by exact tI) tI)) (by exact aI (aI rfl (an am.nil)) tI) (by exact rfl) (by exact (Nm.nv Nm.nil)) (by exact (aA.nv aA.nil)) (by exact lb (by first | omega | (simp only [fE]; omega)) (by first | omega | (simp only [fE]; omega))) (by exact (bb.nv bb.nil)) (fun x hx => hx.elim) (by exact lc) (by exact (aI (.inl rfl) tI)) (by exact lc) (by exact lc) rfl ?_
 refine aN (by exact ⟨rfl, ⟨⟩⟩) (by exact tI) (ax.of rfl (bc (.inr rfl) (by decide) (by exact Cp.sc))) aH ?_
 refine dg ?_
 refine rf ?_
 refine aN (by exact ⟨rfl, ⟨⟩⟩) (by exact tI) (ax.of rfl (dQ (by decide) dN)) aH ?_
 refine aN (by exact ⟨rfl, ⟨⟩⟩) (by exact ⟨rfl, ⟨⟩⟩) (ax.of rfl (df (qs := [val _]) (by decide) dC (fun _ => rfl) (by exact nl rfl) (by exact (am.cons bH am.nil)) (by exact (ao.cons (bor_val _) ao.nil)))) aH ?_
 refine aN (by exact ⟨rfl, ⟨⟩⟩) (by exact tI) (ax.of rfl (bc (.inl rfl) (by decide) (by exact Cp.sc))) aH ?_
 refine d3 (l := [(1, RV.sv false [val _]), (2, RV.ptr 2 0), (4, RV.sv false [val _]), (13, RV.ptr 2 4), (14, RV.sv false [val _]), (15, RV.sv false [val _])]) (b := [(2, (32, [nv _ (sl _ _), nv _ (val _), nv _ (val _), nv _ (sl _ _), nv _ (sl _ _), nv _ (sl _ _), nv _ (sl _ _), nv _ (val _)]))]) (by exact ⟨rfl, rfl, rfl, rfl, rfl, rfl, ⟨⟩⟩) (by exact ⟨rfl, ⟨⟩⟩) ?_
 refine io (bx := 2) (L := da) (A := [nv _ (sl _ _), nv _ (val _), nv _ (val _), nv _ (sl _ _)]) (ms := [nv _ (sl _ _)]) (B := [nv _ (sl _ _), nv _ (sl _ _), nv _ (val _)]) (qr := [(false, [val _])]) (as_ := [(false, [val _])]) (by decide) O1 rfl (by exact rfl) (by exact (Nm.val Nm.nil)) (by exact ⟨rfl, ⟨⟩⟩) (by exact (aI (by exact tI) tI)) (by exact aI (aI rfl (an am.nil)) tI) (by exact rfl) (by exact (Nm.nv Nm.nil)) (by exact (aA.nv aA.nil)) (by exact Ty (by first | omega | (simp only [fE]; omega)) (by first | omega | (simp only [fE]; omega))) (by exact (bb.nv bb.nil)) (fun x hx => hx.elim) (by exact lc) (by exact (aI (.inl rfl) tI)) (by exact lc) (by exact lc) rfl ?_
 refine aN (by exact ⟨rfl, ⟨⟩⟩) (by exact tI) (ax.of rfl (bc (.inr rfl) (by decide) (by exact Cp.sc))) aH ?_
 refine dg ?_
 refine rf ?_
 refine aN (by exact ⟨rfl, ⟨⟩⟩) (by exact tI) (ax.of rfl (dQ (by decide) kd)) aH ?_
 refine aN (by exact ⟨rfl, ⟨⟩⟩) (by exact ⟨rfl, ⟨⟩⟩) (ax.of rfl (df (qs := [val _]) (by decide) kf (fun _ => rfl) (by exact nl rfl) (by exact (am.cons bH am.nil)) (by exact (ao.cons (bor_val _) ao.nil)))) aH ?_
 refine aN (by exact ⟨rfl, ⟨⟩⟩) (by exact tI) (ax.of rfl (bc (.inl rfl) (by decide) (by exact Cp.sc))) aH ?_
 refine d3 (l := [(1, RV.sv false [val _]), (2, RV.ptr 2 0), (4, RV.sv false [val _]), (17, RV.ptr 2 5), (18, RV.sv false [val _]), (19, RV.sv false [val _])]) (b := [(2, (32, [nv _ (sl _ _), nv _ (val _), nv _ (val _), nv _ (sl _ _), nv _ (sl _ _), nv _ (sl _ _), nv _ (sl _ _), nv _ (val _)]))]) (by exact ⟨rfl, rfl, rfl, rfl, rfl, rfl, ⟨⟩⟩) (by exact ⟨rfl, ⟨⟩⟩) ?_
 refine io (bx := 2) (L := da) (A := [nv _ (sl _ _), nv _ (val _), nv _ (val _), nv _ (sl _ _), nv _ (sl _ _)]) (ms := [nv _ (sl _ _)]) (B := [nv _ (sl _ _), nv _ (val _)]) (qr := [(false, [val _])]) (as_ := [(false, [val _])]) (by decide) O2 rfl (by exact rfl) (by exact (Nm.val Nm.nil)) (by exact ⟨rfl, ⟨⟩⟩) (by exact (aI (by exact tI) tI)) (by exact aI (aI rfl (an am.nil)) tI) (by exact rfl) (by exact (Nm.nv Nm.nil)) (by exact (aA.nv aA.nil)) (by exact Tz (by first | omega | (simp only [fE]; omega)) (by first | omega | (simp only [fE]; omega))) (by exact (bb.nv bb.nil)) (fun x hx => hx.elim) (by exact lc) (by exact (aI (.inl rfl) tI)) (by exact lc) (by exact lc) rfl ?_
 refine aN (by exact ⟨rfl, ⟨⟩⟩) (by exact tI) (ax.of rfl (bc (.inr rfl) (by decide) (by exact Cp.sc))) aH ?_
 refine dg ?_
 refine rf ?_
 refine aN (by exact ⟨rfl, ⟨⟩⟩) (by exact tI) (ax.of rfl (dQ (by decide) jt)) aH ?_
 refine aN (by exact ⟨rfl, ⟨⟩⟩) (by exact ⟨rfl, ⟨⟩⟩) (ax.of rfl (df (qs := [val _]) (by decide) jz (fun _ => rfl) (by exact nl rfl) (by exact (am.cons bH am.nil)) (by exact (ao.cons (bor_val _) ao.nil)))) aH ?_
 refine aN (by exact ⟨rfl, ⟨⟩⟩) (by exact tI) (ax.of rfl (bc (.inl rfl) (by decide) (by exact Cp.sc))) aH ?_
 refine d3 (l := [(1, RV.sv false [val _]), (2, RV.ptr 2 0), (4, RV.sv false [val _]), (21, RV.ptr 2 6), (22, RV.sv false [val _]), (23, RV.sv false [val _])]) (b := [(2, (32, [nv _ (sl _ _), nv _ (val _), nv _ (val _), nv _ (sl _ _), nv _ (sl _ _), nv _ (sl _ _), nv _ (sl _ _), nv _ (val _)]))]) (by exact ⟨rfl, rfl, rfl, rfl, rfl, rfl, ⟨⟩⟩) (by exact ⟨rfl, ⟨⟩⟩) ?_
 refine io (bx := 2) (L := da) (A := [nv _ (sl _ _), nv _ (val _), nv _ (val _), nv _ (sl _ _), nv _ (sl _ _), nv _ (sl _ _)]) (ms := [nv _ (sl _ _)]) (B := [nv _ (val _)]) (qr := [(false, [val _])]) (as_ := [(false, [val _])]) (by decide) O3 rfl (by exact rfl) (by exact (Nm.val Nm.nil)) (by exact ⟨rfl, ⟨⟩⟩) (by exact (aI (by exact tI) tI)) (by exact aI (aI rfl (an am.nil)) tI) (by exact rfl) (by exact (Nm.nv Nm.nil)) (by exact (aA.nv aA.nil)) (by exact Tr (by first | omega | (simp only [fE]; omega)) (by first | omega | (simp only [fE]; omega))) (by exact (bb.nv bb.nil)) (fun x hx => hx.elim) (by exact lc) (by exact (aI (.inl rfl) tI)) (by exact lc) (by exact lc) rfl ?_
 refine aN (by exact ⟨rfl, ⟨⟩⟩) (by exact tI) (ax.of rfl (bc (.inr rfl) (by decide) (by exact Cp.sc))) aH ?_
 refine dg ?_
 refine s7 ?_
 exact aI (by exact rfl) (bj _ (aI (.inr (bj 2 (bj _ (by exact rfl)))) (aI (by exact (Nm.nv (Nm.nv (Nm.nv (Nm.nv (Nm.nv (Nm.nv (Nm.nv (Nm.nv Nm.nil))))))))) (by exact (aA.nv (aA.nv (aA.nv (aA.nv (aA.nv (aA.nv (aA.nv (aA.nv aA.nil))))))))))))
end Go.Proofs.YtmekkgdboplbjaaGreat
