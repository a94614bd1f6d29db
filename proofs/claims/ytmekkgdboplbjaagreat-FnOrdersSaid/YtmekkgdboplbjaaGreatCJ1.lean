/- What functions of the program compute. No condition. -/
import Derived.Test.YtmekkgdboplbjaaGreatCD0
import Derived.Test.YtmekkgdboplbjaaGreatCF0
import Derived.Test.YtmekkgdboplbjaaGreatCT0
set_option linter.unusedVariables false
set_option linter.unusedSimpArgs false
namespace Go.Proofs.YtmekkgdboplbjaaGreat
open Go Go.RowKit M PV
set_option maxRecDepth 10000
attribute [local irreducible] PV.Lcl PV.LclR RV.Lcl
attribute [local irreducible] aj fM
theorem Td : cU Tryz.prog 192 = some [(0, 1), (1, 1), (2, 1)] := by kernel_rfl
theorem Te : cU Tryz.prog 54 = some [(0, 1), (1, 1)] := by kernel_rfl
theorem LF : Tryz.prog.underlying 3 = some (.int .i64) := by kernel_rfl
theorem LG : Tryz.prog.underlying 5 = some (.int .u8) := by kernel_rfl
theorem Tf {code : List Int}  (hb : code.length ≤ 9223372036854775807) (hb2 : code.length ≤ 4611686018427387904) : wx Tryz.prog 71 192 [(false, [sl .v (code.map kw)])] (cO .v (ba code hb)) := by
 refine M6 (rs := 2) Tryz.func71 rfl rfl (nl rfl) (cI (ae.cons (bor_sl _) ae.nil) cr) (by exact (ae.cons (bor_sl _) (ae.cons (bor_val _) (ae.cons (bor_val _) ae.nil)))) ?_
 intro h0 w0 Fz0
 refine sj 0 fun hl0 => ?_
 refine sR ?_
 refine rK ?_
 refine sS [0, 2] [] ?_
 refine yk ?_
 refine mW ?_
 refine o7 ?_
 refine sL [0, 2] [] (fun k : Nat => k ≤ code.length ∧ k ≤ 4000) (fun k : Nat => [(3, RV.int (vu code k)), (4, RV.int (k : Int))]) (fun k : Nat => []) (fun k : Nat => code.length - k) 0 (by omega) (by exact aI (by exact rfl) (aI (by exact rfl) (tI))) (by exact ⟨⟩) ?_
 rintro k ⟨hk, hk4⟩
 refine bu ?_
 refine yk ?_
 refine ll ?_
 refine cx 12 (fun ga sga => ?_) (fun ga sga => ?_)
 refine ut ?_
 refine sc (fun hba => ?_) (fun hba => ?_)
 have hlt : k < code.length := by omega
 have hl4 : k < 4000 := by omega
 refine aT ?_
 refine sG [0, 2, 3, 4] [] ?_
 refine rM ?_
 refine rA ?_ (x := Bx (by decide) (by exact ⟨⟩) (aY rfl))
 refine i4 ?_
 refine rA ?_ (x := aD (by decide) uF (by exact ⟨⟩) (by exact rfl) (by exact aE (by omega) rfl) (by exact rfl))
 refine rA ?_ (x := lE [val _] Kb)
 refine rA ?_ (x := Bs LG LF rfl)
 refine rA ?_ (x := sZ (by decide) (by exact ⟨⟩) (by exact ⟨⟩))
 refine rA ?_ (x := sZ (by decide) (by exact ⟨⟩) (aY rfl))
 refine rA ?_ (x := wB (by decide) (by exact ⟨⟩) (aY rfl))
 refine rS ?_
 refine sG [0, 2, 3, 4] [] ?_
 refine bF ?_
 refine nx (k + 1) (by omega) (e := (by exact aI (by exact bf (by rw [vu, List.getD_eq_getElem?_getD, List.getElem?_eq_getElem hlt]; rfl)) (aI (by exact bf (by omega)) (tI))))
 exact EH
 refine jJ ?_
 exact EH
theorem Tg {o : Fl} {c : aC} (hbo : ∀ es, (sl o es).Bor)  : fE Tryz.prog 235 192 (cO o c) (cO o (fM c).2) [] (av [(false, [val (vI (fM c).1)])]) := by
 refine gG (rs := [(false, [val (vI (fM c).1)])]) Tryz.func235 rfl (nl rfl) (nl rfl) ?_
 intro g_ h0 w0 Fz0
 have hcb := c.hb
 refine sR ?_
 refine eS ?_
 refine sO [(0, _), (2, _), (5000, _)] [(0, (192, [sl o _, val _, val _]))] ?_
 refine jE ?_
 refine i2 ?_
 refine rA ?_ (x := lF uZ)
 refine rA ?_ (x := lD [val _] aq)
 refine rA ?_ (x := Bx (by decide) (by exact ⟨⟩) (aY rfl))
 refine rA ?_ (x := sZ (by decide) (by exact ⟨⟩) (aY rfl))
 refine rA ?_ (x := fU (by decide))
 refine rA ?_ (x := lF uZ)
 refine kh ?_
 refine sO [(0, _), (2, _), (5000, _)] [(0, (192, [sl o _, val _, val _]))] ?_
 refine mf ?_
 refine dA 3 ?_ (x := lF uZ)
 refine dA 7 ?_ (x := lD [val _] aq)
 refine dA 15 ?_ (x := Bv (m := 33) rfl (by decide))
 refine na ?_
 refine dA 96 ?_ (x := lF uZ)
 refine dA 224 ?_ (x := lD [val _] aq)
 refine dA 480 ?_ (x := Bv (m := 45) rfl (by decide))
 refine dA 1023 ?_ (x := M9 (by decide) (by exact ⟨⟩) (by exact ⟨⟩))
 refine dA 2047 ?_ (x := wB (by decide) (by exact ⟨⟩) (aY rfl))
 refine dA 4095 ?_ (x := sA)
 refine dH ?_
 refine sP [0, 2, 3, 5000] [0] ?_
 refine mf ?_
 refine dA 3 ?_ (x := lF uY)
 refine dA 7 ?_ (x := lD [val _] aq)
 refine dA 0 ?_ (x := cM Cp.ptr)
 refine dA 16 ?_ (x := fU (by decide))
 refine dA 48 ?_ (x := lF J9)
 refine dA 112 ?_ (x := lD [sl .v _] zk)
 refine dA 240 ?_ (x := lN uF)
 refine dA 511 ?_ (x := cb)
 refine sc (fun hba => ?_) (fun hba => ?_)
 have hlt : c.i < c.b.length := by omega
 have hr := RY hlt
 have hge : c.b[c.i] = c.b.getD c.i 0 := by rw [List.getD_eq_getElem?_getD, List.getElem?_eq_getElem hlt]; rfl
 refine aJ ?_
 refine sP [0, 2, 3, 5000] [0] ?_
 refine uc ?_
 refine qL ?_
 refine dA 6 ?_ (x := lF J9)
 refine dA 14 ?_ (x := lD [sl .v _] zk)
 refine na ?_
 refine dA 96 ?_ (x := lF uY)
 refine dA 224 ?_ (x := lD [val _] aq)
 refine dA 510 ?_ (x := aD (k := c.i) (by decide) uF (by exact ⟨⟩) (by rfl) (by exact aE hlt (by rw [hge])) (by exact rfl))
 refine dA 1022 ?_ (x := lE [val _] Kb)
 refine dA 2046 ?_ (x := Bs LG LF rfl)
 refine dA 4095 ?_ (x := sZ (by decide) (by exact ⟨⟩) (by exact ⟨⟩))
 refine dA 8191 ?_ (x := wB (by decide) (by exact ⟨⟩) (aY rfl))
 refine dA 16383 ?_ (x := sA)
 refine sG [0, 2, 3, 5000] [0] ?_
 refine qX ?_
 refine rA ?_ (x := lF uY)
 refine yo ?_
 refine rA ?_ (x := lF uY)
 refine kh ?_
 refine sO [(0, _), (2, _), (3, _), (5000, _)] [(0, (192, [sl o _, val _, val _]))] ?_
 refine aM ?_
 exact EI
 have hr := RZ (c := c) (by omega)
 refine aN ?_
 refine sS [0, 2, 3, 5000] [0] ?_
 exact EI
theorem lU {o : Fl} {c : aC} (hbo : ∀ es, (sl o es).Bor) {n : Int}  (hn : n ≤ 256) : fE Tryz.prog 169 192 (cO o c) (cO o (aj c n).2) [(false, [val (vI n)])] (av [(false, [val (vI (aj c n).1)])]) := by
 refine gG (rs := [(false, [val (vI (aj c n).1)])]) Tryz.func169 rfl (nl rfl) (nl rfl) ?_
 intro g_ h0 w0 Fz0
 refine sR ?_
 refine eS ?_
 refine Ig ?_
 refine iL ?_
 refine rA ?_ (x := eR)
 refine sc (fun hba => ?_) (fun hba => ?_)
 have hr := K6 (c := c) hba
 refine sS [0, 1, 4, 5000] [0] ?_
 refine rK ?_
 exact EJ
 have hn0 : 0 < n := by omega
 have hr := z5 (c := c) hn0
 refine dE ?_
 refine sS [0, 1, 4, 5000] [0] ?_
 refine rM ?_
 refine rA ?_ (x := eR)
 refine sc (fun hbb => ?_) (fun hbb => ?_)
 refine sS [0, 1, 4, 5000] [0] ?_
 refine rA ?_ (x := cM Cp.ptr)
 refine rA ?_ (x := c9 (bx := 0) (qs := []) (as_ := []) (by decide) Px rfl (by exact ⟨⟩) (by exact ⟨⟩) (by exact (ae.cons (hbo _) (ae.cons (bor_val _) (ae.cons (bor_val _) ae.nil)))) (by exact cr) (by exact (Tg hbo)))
 refine rM ?_
 refine rA ?_ (x := sV (by decide) (by exact ⟨⟩) (by exact ⟨⟩) (by omega))
 refine rS ?_
 exact EJ
 omega
theorem pM {o : Fl} {c : aC} (hbo : ∀ es, (sl o es).Bor) {l : List Int}  (hl : 0 < l.length) (hl2 : l.length ≤ 256) : fE Tryz.prog 142 192 (cO o c) (cO o (aU c l).2) [(false, [sl .v (l.map ai)])] (av [(false, [val (vI (aU c l).1)])]) := by
 refine gG (rs := [(false, [val (vI (aU c l).1)])]) Tryz.func142 rfl (nl rfl) (nl rfl) ?_
 intro g_ h0 w0 Fz0
 refine sj 1 fun hl1 => ?_
 have hg := di c (l.length : Int)
 have hg2 := dw c (n := (l.length : Int)) (by omega)
 refine Ih ?_
 refine aM ?_
 refine rA ?_ (x := vM false [sl .v _])
 refine rA ?_ (x := cM Cp.ptr)
 refine fZ ?_
 refine rA ?_ (x := c9 (bx := 0) (qs := [(false, [val _])]) (as_ := [(false, [val _])]) (by decide) lM rfl (by exact (aI (by exact ⟨⟩) tI)) (by exact (aI (aI rfl (ab.cons (PV.To.refl _) ab.nil)) tI)) (by exact (ae.cons (hbo _) (ae.cons (bor_val _) (ae.cons (bor_val _) ae.nil)))) (by exact (cI (ae.cons (bor_val _) ae.nil) cr)) (by exact (lU hbo (by omega))))
 refine rA ?_ (x := aD (k := (aj c (l.length : Int)).1.toNat) (by decide) a3 (by exact ⟨⟩) (by omega) (by exact aE (by omega) rfl) (by exact rfl))
 refine rA ?_ (x := lE [val _] aq)
 refine cK ?_
 exact ⟨(by exact rfl), rfl, (aI (by refine bf ?_; show _ = l.getD _ 0; rw [List.getD_eq_getElem?_getD, List.getElem?_eq_getElem (by omega)]; rfl) tI)⟩
theorem Ar {o : Fl} {c : aC} (hbo : ∀ es, (sl o es).Bor) {n : Int}  (hn : n ≤ 256) : fE Tryz.prog 236 192 (cO o c) (cO o (aj c n).2) [(false, [val (vI n)])] (av [(false, [val (.bool (decide ((aj c n).1 = 0)))])]) := by
 refine gG (rs := [(false, [val (.bool (decide ((aj c n).1 = 0)))])]) Tryz.func236 rfl (nl rfl) (nl rfl) ?_
 intro g_ h0 w0 Fz0
 refine Ih ?_
 refine jE ?_
 refine qu ?_
 refine rA ?_ (x := dY)
 refine cK ?_
 exact ⟨(by exact rfl), rfl, (aI (by exact rfl) tI)⟩
theorem LH {o : Fl} {c : aC} (hbo : ∀ es, (sl o es).Bor) {id : Int}  : fE Tryz.prog 252 192 (cO o c) (cO o (eP c id).2) [(false, [val (vI id)])] (av [(true, [val (vI (eP c id).1.Id), sl (.own 3 1) ((eP c id).1.Values.map ai)])]) := by
 refine gG (rs := [(true, [val (vI (eP c id).1.Id), sl (.own 3 1) ((eP c id).1.Values.map ai)])]) Tryz.func252 rfl (nl rfl) (nl rfl) ?_
 intro g_ h0 w0 Fz0
 have hp3 := R3 c
 refine sR ?_
 refine rX ?_ (x := (bB (by decide) ff iQ))
 refine aJ ?_
 refine sO [(0, _), (1, _), (4, _), (5000, _)] [(0, (192, [sl o _, val _, val _])), (4, (54, [val _, sl _ _]))] ?_
 refine iL ?_
 refine rA ?_ (x := cv (qs := [(false, [val _])]) (cs := [val _, sl _ _]) (by decide) ff iQ Te (by exact rfl) (by exact (aI (by exact ⟨⟩) tI)) rfl (by exact rfl))
 refine tD ?_
 refine aJ ?_
 refine sO [(0, _), (1, _), (4, _), (5, _), (5000, _)] [(0, _), (4, _), (5, (54, [val _, sl _ _]))] ?_
 refine jE ?_
 refine Fg ?_
 refine ig ?_
 refine sS [0, 1, 4, 5, 6, 5000] [0, 4, 5] ?_
 refine bw ?_
 refine sP [0, 1, 4, 5, 6, 7, 5000] [0, 4, 5] ?_
 refine sL [0, 1, 4, 5, 6, 5000] [4] (fun k : Nat => k ≤ 3) (fun k : Nat => [(7, RV.int (k : Int))]) (fun k : Nat => [(0, (192, cO o (fO (aU c [3, 6, 100]).1 (aU c [3, 6, 100]).2 k).2)), (5, (54, [val (vI id), sl (.own 3 1) ((fO (aU c [3, 6, 100]).1 (aU c [3, 6, 100]).2 k).1.map ai)]))]) (fun k : Nat => 3 - k) 0 (by omega) (by exact aI (by exact rfl) (tI)) (by exact aI (by exact rfl) (aI (by exact rfl) (tI))) ?_
 rintro k hk
 have hvl : ((fO (aU c [3, 6, 100]).1 (aU c [3, 6, 100]).2 k).1).length = k := r6
 refine nh ?_
 refine sc (fun hba => ?_) (fun hba => ?_)
 have hlt : k < 3 := by omega
 refine cE ?_
 refine sO [(0, _), (1, _), (4, _), (5, _), (6, _), (7, _), (5000, _)] [(0, (192, [sl o _, val _, val _])), (4, (54, [val _, sl _ _])), (5, (54, [val _, sl _ _]))] ?_
 refine jE ?_
 refine qu ?_
 refine rS ?_
 refine sG [0, 1, 4, 5, 6, 7, 8, 5000] [0, 4, 5] ?_
 refine rA ?_ (x := lF ip)
 refine pc ?_
 refine rA ?_ (x := lF ip)
 refine rA ?_ (x := aQ (ag := false) (vs := [sl _ _]) aZ (by exact ⟨⟩) (by exact rfl) (by exact nl rfl))
 refine sO [(0, _), (1, _), (4, _), (5, _), (6, _), (7, _), (8, _), (5000, _)] [(0, _), (4, _), (5, (54, [val _, sl _ _]))] ?_
 refine nr ?_
 refine nx (k + 1) (by omega) (e := (by exact aI (by exact bf (by omega)) (tI))) (f := (by exact aI (by exact rfl) (aI (by simp only [fO, List.map_append]; exact rfl) (tI))))
 have hend : k = 3 := by omega
 refine et ?_
 refine sO [(0, _), (1, _), (4, _), (5, _), (6, _), (7, _), (5000, _)] [(0, (192, [sl o _, val _, val _])), (4, (54, [val _, sl _ _])), (5, (54, [val _, sl _ _]))] ?_
 refine aM ?_
 refine rA ?_ (x := b8 (ms := [val _, sl _ _]) (qs := [val _, sl .v _]) (by decide) ew (fun h => nomatch h) (by exact nl rfl) (by exact rfl) (by exact (ab.cons (PV.To.refl _) (ab.cons PV.to_none ab.nil))) (by exact (ae.cons (bor_val _) (ae.cons (bor_sl _) ae.nil))))
 refine rA ?_ (x := aQ (ag := true) (vs := [val _, sl _ _]) ew (by exact ⟨⟩) (by exact rfl) (by exact nl rfl))
 refine bY ?_
 exact ⟨(by subst hend; exact rfl), rfl, (Exists.intro 4 (Exists.intro _ (aI (by exact rfl) (aI (by refine cW ?_; subst hend; exact rfl) (aI ew (aI (fun h => nomatch h) tI))))))⟩
theorem Th {o : Fl} {c : aC} (hbo : ∀ es, (sl o es).Bor) {most : Int}  (hm : 0 ≤ most ∧ most ≤ 200) : fE Tryz.prog 183 192 (cO o c) (cO o (jY c most).2) [(false, [val (vI most)])] (av [(false, [sl (.own 54 2) ((jY c most).1.map (bn (.own 3 1)))])]) := by
 refine gG (rs := [(false, [sl (.own 54 2) ((jY c most).1.map (bn (.own 3 1)))])]) Tryz.func183 rfl (nl rfl) (nl rfl) ?_
 intro g_ h0 w0 Fz0
 have ha := di c 3
 have ha2 := dw c (n := 3) (by decide)
 have hb1 := di (aj c 3).2 (most + 1)
 have hb2 := dw (aj c 3).2 (n := most + 1) (by omega)
 refine xM ?_
 refine Ig ?_
 refine aM ?_
 refine oI ?_
 refine sS [0, 1, 4, 5, 5000] [0] ?_
 refine ic ?_
 refine ig ?_
 refine sS [0, 1, 4, 5, 6, 5000] [0] ?_
 refine rA ?_ (x := cM Cp.ptr)
 refine rM ?_
 refine rA ?_ (x := gI)
 refine rA ?_ (x := c9 (bx := 0) (qs := [(false, [val _])]) (as_ := [(false, [val _])]) (by decide) lM rfl (by exact (aI (by exact ⟨⟩) tI)) (by exact (aI (aI rfl (ab.cons (PV.To.refl _) ab.nil)) tI)) (by exact (ae.cons (hbo _) (ae.cons (bor_val _) (ae.cons (bor_val _) ae.nil)))) (by exact (cI (ae.cons (bor_val _) ae.nil) cr)) (by exact (lU hbo (by omega))))
 refine rS ?_
 refine iE ?_
 refine sP [0, 1, 4, 5, 6, 7, 5000] [0] ?_
 refine sL [0, 1, 4, 5000] [] (fun k : Nat => (k : Int) ≤ (aj (aj c 3).2 (most + 1)).1) (fun k : Nat => [(5, RV.slc (.own 54 2) ((b4 (aj c 3).1 (aj (aj c 3).2 (most + 1)).2 k).l.map (bn (.own 3 1)))), (6, RV.int (b4 (aj c 3).1 (aj (aj c 3).2 (most + 1)).2 k).id), (7, RV.int ((aj (aj c 3).2 (most + 1)).1 - (k : Int)))]) (fun k : Nat => [(0, (192, cO o (b4 (aj c 3).1 (aj (aj c 3).2 (most + 1)).2 k).c))]) (fun k : Nat => ((aj (aj c 3).2 (most + 1)).1 - (k : Int)).toNat) 0 (by omega) (by exact aI (by exact rfl) (aI (by exact rfl) (aI (by exact bf (by omega)) (tI)))) (by exact aI (by exact rfl) (tI)) ?_
 rintro k hk
 have hid := K8 (id := (aj c 3).1) (c := (aj (aj c 3).2 (most + 1)).2) (k := k) (by omega)
 have hln := z6 (id := (aj c 3).1) (c := (aj (aj c 3).2 (most + 1)).2) (k := k)
 have hb3 := di (eP (b4 (aj c 3).1 (aj (aj c 3).2 (most + 1)).2 k).c (b4 (aj c 3).1 (aj (aj c 3).2 (most + 1)).2 k).id).2 3
 have hb4 := dw (eP (b4 (aj c 3).1 (aj (aj c 3).2 (most + 1)).2 k).c (b4 (aj c 3).1 (aj (aj c 3).2 (most + 1)).2 k).id).2 (n := 3) (by decide)
 refine uw ?_
 refine sc (fun hba => ?_) (fun hba => ?_)
 have hlt : (k : Int) < (aj (aj c 3).2 (most + 1)).1 := by omega
 refine cE ?_
 refine H2 ?_
 refine rA ?_ (x := tM)
 refine rA ?_ (x := cM Cp.ptr)
 refine rM ?_
 refine rA ?_ (x := c9 (bx := 0) (qs := [(false, [val _])]) (as_ := [(false, [val _])]) (by decide) JR rfl (by exact (aI (by exact ⟨⟩) tI)) (by exact (aI (aI rfl (ab.cons (PV.To.refl _) ab.nil)) tI)) (by exact (ae.cons (hbo _) (ae.cons (bor_val _) (ae.cons (bor_val _) ae.nil)))) (by exact (cI (ae.cons (bor_val _) ae.nil) cr)) (by exact (LH hbo)))
 refine oB ?_
 refine rA ?_ (x := tA)
 refine sG [0, 1, 4, 5, 6, 7, 5000] [0] ?_
 refine rM ?_
 refine rA ?_ (x := gI)
 refine ic ?_
 refine mW ?_
 refine sG [0, 1, 4, 5, 6, 7, 5000] [0] ?_
 refine rM ?_
 refine rA ?_ (x := er)
 refine rS ?_
 refine nx (k + 1) (by omega) (e := (by exact aI (by exact bg (by simp only [b4, List.map_append]; rfl)) (aI (by exact rfl) (aI (by exact bf (by omega)) (tI)))))
 have hend : (aj (aj c 3).2 (most + 1)).1.toNat = k := by omega
 refine et ?_
 refine H2 ?_
 refine jG ?_
 exact ⟨(by show _ = some (192, cO o (b4 (aj c 3).1 (aj (aj c 3).2 (most + 1)).2 (aj (aj c 3).2 (most + 1)).1.toNat).c); rw [hend]; exact rfl), rfl, (aI (by refine bg ?_; show _ = List.map _ (b4 _ _ _).l; rw [hend]) tI)⟩
end Go.Proofs.YtmekkgdboplbjaaGreat
