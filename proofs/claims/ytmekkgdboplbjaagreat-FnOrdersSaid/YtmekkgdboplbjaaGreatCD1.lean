/- What functions of the program compute. No condition. -/
import Derived.Test.YtmekkgdboplbjaaGreatCU0
import Derived.Test.YtmekkgdboplbjaaGreatCV0
set_option linter.unusedVariables false
set_option linter.unusedSimpArgs false
namespace Go.Proofs.YtmekkgdboplbjaaGreat
open Go Go.RowKit M PV
set_option maxRecDepth 10000
attribute [local irreducible] PV.Lcl PV.LclR RV.Lcl
set_option maxHeartbeats 8000000
theorem Lz {p1 p2 p5 p6 p7 p8 p9 p11 p12 p13 p14 p16 p17 p18 : Fl} {e : am} {id : Int}  (hb : aO e ≤ 68719000000) : aw Tryz.prog 88 [(true, [sl .v (e.Store.Segments.map (ax p1 p2)), val (vI e.Store.Now), val (vI e.Cursor), sl .v (e.Order.map ai), sl .v (e.Active.map (aG p5 p6 p7 p8 p9)), sl .v (e.Done.map (aP p11 p12 p13 p14)), sl .v (e.Ledger.map (aR p16 p17 p18)), val (vI e.Steps)]), (false, [val (vI id)])] (av [(true, [sl (.own 139 1) ((d6 e id).1.Store.Segments.map (ax (.own 184 4) (.own 3 1))), val (vI (d6 e id).1.Store.Now), val (vI (d6 e id).1.Cursor), sl (.own 3 1) ((d6 e id).1.Order.map ai), sl (.own 108 10) ((d6 e id).1.Active.map (aG (.own 178 3) (.own 3 1) (.own 3 1) (.own 54 2) (.own 3 1))), sl (.own 63 7) ((d6 e id).1.Done.map (aP (.own 178 3) (.own 3 1) (.own 54 2) (.own 3 1))), sl (.own 70 5) ((d6 e id).1.Ledger.map (aR (.own 3 1) (.own 3 1) (.own 3 1))), val (vI (d6 e id).1.Steps)]), (false, [val (.bool (d6 e id).2)])]) := by
 refine kX (largs := fun L => [(true, [sl (.lo L) (e.Store.Segments.map (ax (.lo L) (.lo L))), val (vI e.Store.Now), val (vI e.Cursor), sl (.lo L) (e.Order.map ai), sl (.lo L) (e.Active.map (aG (.lo L) (.lo L) (.lo L) (.lo L) (.lo L))), sl (.lo L) (e.Done.map (aP (.lo L) (.lo L) (.lo L) (.lo L))), sl (.lo L) (e.Ledger.map (aR (.lo L) (.lo L) (.lo L))), val (vI e.Steps)]), (false, [val (vI id)])]) (rs := [(true, [sl (.own 139 1) ((d6 e id).1.Store.Segments.map (ax (.own 184 4) (.own 3 1))), val (vI (d6 e id).1.Store.Now), val (vI (d6 e id).1.Cursor), sl (.own 3 1) ((d6 e id).1.Order.map ai), sl (.own 108 10) ((d6 e id).1.Active.map (aG (.own 178 3) (.own 3 1) (.own 3 1) (.own 54 2) (.own 3 1))), sl (.own 63 7) ((d6 e id).1.Done.map (aP (.own 178 3) (.own 3 1) (.own 54 2) (.own 3 1))), sl (.own 70 5) ((d6 e id).1.Ledger.map (aR (.own 3 1) (.own 3 1) (.own 3 1))), val (vI (d6 e id).1.Steps)]), (false, [val (.bool (d6 e id).2)])]) Tryz.func88 rfl (nl rfl) (fun L => by exact (aI (aI rfl (ah.cons (PV.tob_map (fun _ => nl rfl) (fun _ => (ah.cons (PV.tob_map (fun _ => nl rfl) (fun _ => (ah.cons PV.tob_refl (ah.cons (PV.tob_map (fun _ => nl rfl) (fun _ => (ah.cons PV.tob_refl ah.nil))) (ah.cons PV.tob_refl (ah.cons PV.tob_refl ah.nil)))))) ah.nil))) (ah.cons PV.tob_refl (ah.cons PV.tob_refl (ah.cons (PV.tob_map (fun _ => nl rfl) (fun _ => (ah.cons PV.tob_refl ah.nil))) (ah.cons (PV.tob_map (fun _ => nl rfl) (fun _ => (ah.cons PV.tob_refl (ah.cons PV.tob_refl (ah.cons (PV.tob_map (fun _ => nl rfl) (fun _ => (ah.cons PV.tob_refl (ah.cons PV.tob_refl (ah.cons PV.tob_refl ah.nil))))) (ah.cons (PV.tob_map (fun _ => nl rfl) (fun _ => (ah.cons PV.tob_refl ah.nil))) (ah.cons PV.tob_refl (ah.cons (PV.tob_map (fun _ => nl rfl) (fun _ => (ah.cons PV.tob_refl ah.nil))) (ah.cons PV.tob_refl (ah.cons PV.tob_refl (ah.cons PV.tob_refl (ah.cons (PV.tob_map (fun _ => nl rfl) (fun _ => (ah.cons PV.tob_refl (ah.cons (PV.tob_map (fun _ => nl rfl) (fun _ => (ah.cons PV.tob_refl ah.nil))) ah.nil)))) ah.nil)))))))))))) (ah.cons (PV.tob_map (fun _ => nl rfl) (fun _ => (ah.cons PV.tob_refl (ah.cons PV.tob_refl (ah.cons (PV.tob_map (fun _ => nl rfl) (fun _ => (ah.cons PV.tob_refl (ah.cons PV.tob_refl (ah.cons PV.tob_refl ah.nil))))) (ah.cons (PV.tob_map (fun _ => nl rfl) (fun _ => (ah.cons PV.tob_refl ah.nil))) (ah.cons PV.tob_refl (ah.cons PV.tob_refl (ah.cons (PV.tob_map (fun _ => nl rfl) (fun _ => (ah.cons PV.tob_refl (ah.cons (PV.tob_map (fun _ => nl rfl) (fun _ => (ah.cons PV.tob_refl ah.nil))) ah.nil)))) ah.nil))))))))) (ah.cons (PV.tob_map (fun _ => nl rfl) (fun _ => (ah.cons PV.tob_refl (ah.cons PV.tob_refl (ah.cons (PV.tob_map (fun _ => nl rfl) (fun _ => (ah.cons PV.tob_refl ah.nil))) (ah.cons (PV.tob_map (fun _ => nl rfl) (fun _ => (ah.cons PV.tob_refl ah.nil))) (ah.cons (PV.tob_map (fun _ => nl rfl) (fun _ => (ah.cons PV.tob_refl ah.nil))) ah.nil))))))) (ah.cons PV.tob_refl ah.nil))))))))) (aI (aI rfl (ah.cons PV.tob_refl ah.nil)) tI))) (fun L => by exact lq) ?_
 intro w0 Fz0
 refine sn 0 0 fun hl0_0 => ?_
 refine sn 0 3 fun hl0_3 => ?_
 refine sn 0 4 fun hl0_4 => ?_
 refine sn 0 5 fun hl0_5 => ?_
 refine sn 0 6 fun hl0_6 => ?_
 have hbu := hb
 simp only [aO, fp, gK, f4] at hbu
 refine tB ?_
 refine tQ ?_
 refine sO [(1, _), (2, _), (4, _), (5, _)] [(2, (32, [sl (.lo _) _, val _, val _, sl (.lo _) _, sl (.lo _) _, sl (.lo _) _, sl (.lo _) _, val _])), (4, (32, [sl _ _, val _, val _, sl _ _, sl _ _, sl _ _, sl _ _, val _]))] ?_
 refine xn ?_
 refine iI ?_
 refine aJ ?_
 refine sO [(1, _), (2, _), (4, _), (5, _), (6, _)] [(2, _), (4, _), (6, (32, [sl _ _, val _, val _, sl _ _, sl _ _, sl _ _, sl _ _, val _]))] ?_
 refine oF ?_
 refine rM ?_
 refine rA ?_ (x := cL [(true, [sl (.lo _) _, val _, val _, sl (.lo _) _, sl (.lo _) _, sl (.lo _) _, sl (.lo _) _, val _]), (false, [val _])] [(true, [sl .v _, val _, val _, sl .v _, sl .v _, sl .v _, sl .v _, val _]), (false, [val _])] rL (hs := by exact r9))
 refine ig ?_
 refine sS [1, 2, 4, 5, 6, 7] [2, 4, 6] ?_
 refine rA ?_ (x := lD [sl (.lo _) _, val _, val _, sl (.lo _) _, sl (.lo _) _, sl (.lo _) _, sl (.lo _) _, val _] a7)
 refine rA ?_ (x := cL [(true, [sl (.lo _) _, val _, val _, sl (.lo _) _, sl (.lo _) _, sl (.lo _) _, sl (.lo _) _, val _])] [(true, [sl .v _, val _, val _, sl .v _, sl .v _, sl .v _, sl .v _, val _])] rI (hs := by exact (rN (by omega))))
 refine dI ?_
 refine cx 16 (fun ga sga => ?_) (fun ga sga => ?_)
 refine jI ?_
 exact Ep
 refine rB ga ?_ (x := sM)
 refine rB ga ?_ (x := cb)
 refine rA ?_ (x := ay ga)
 refine sc (fun hba => ?_) (fun hba => ?_)
 exact Ep
 have hoe : aH e = true := by simp_all
 have hge : 0 ≤ cm e.Active id := by first | omega | (simp_all; omega)
 have hok : iX e id = true := by unfold iX; rw [hoe, decide_eq_true hge]; rfl
 obtain ⟨i, hi, hf⟩ := KU hge
 have hef := fg hoe
 have hdw := KW hi
 have hdl := BW hi
 refine dE ?_
 refine sP [1, 2, 4, 5, 6, 7] [2, 4, 6] ?_
 refine qh (d := 6) (t := 108) (e := 10) (G := 6200) (A := [sl _ _, val _, val _, sl _ _]) (B := [sl _ _, sl _ _, val _]) (f := (aG (.own 178 3) (.own 3 1) (.own 3 1) (.own 54 2) (.own 3 1))) (g := (fun z : Active => [val (vI z.Query.Id), val (vI z.Query.Tenant), sl .v (z.Query.Conds.map bR), sl .v (z.Query.Out.map ai), val (vI z.Time), sl .v (z.Todo.map ai), val (vI z.Age), val (vI z.Sent), val (vI z.Cap), sl .v (z.Rows.map (bn (.own 3 1)))])) (fN := fx) (xs := e.Active) (by exact rfl) (by exact rfl) (fun _ _ => rfl) (fun _ => rfl) (fun _ => (ab.cons (PV.To.refl _) (ab.cons (PV.To.refl _) (ab.cons PV.to_none (ab.cons PV.to_none (ab.cons (PV.To.refl _) (ab.cons PV.to_none (ab.cons (PV.To.refl _) (ab.cons (PV.To.refl _) (ab.cons (PV.To.refl _) (ab.cons PV.to_none ab.nil))))))))))) (fun _ => (by exact lq)) fun za hza => ?_
 have hzal : za.length = e.Active.length := by rw [← List.length_map (f := Prod.fst), hza]
 refine sO [(1, _), (2, _), (4, _), (5, _), (6, _), (7, _), (6200, _)] [(2, _), (4, _), (6, (32, [sl _ _, val _, val _, sl _ _, sl _ _, sl _ _, sl _ _, val _]))] ?_
 refine b9 bP ?_
 refine dA 0 ?_ (x := bd (qs := []) (by decide) bJ fe (by decide) rfl rfl rfl rfl rfl (by exact nl rfl) (by exact ⟨⟩) rfl)
 refine tY ?_
 refine dA 0 ?_ (x := sM)
 refine dA 14 ?_ (x := wd (i := 0) (j := i) (ys := (za.take i)) (q := (0 : Int)) (by decide) bJ (by exact rfl) (by exact ⟨⟩) (by rfl) (by omega) (by omega) (by omega) (fun _ => rfl) (by simp))
 refine dA 31 ?_ (x := gp (by decide) bJ fe rfl rfl (by decide) (by intro cs hcs; obtain ⟨x, _, rfl⟩ := List.mem_map.1 hcs; exact rfl) (by intro cs hcs; obtain ⟨x, _, rfl⟩ := List.mem_map.1 hcs; exact (by exact lq)) (by simp only [List.length_map, List.length_append, List.length_cons, List.length_nil, List.length_drop, List.length_take]; omega) (by simp only [List.length_map, List.length_append, List.length_cons, List.length_nil, List.length_drop, List.length_take]; omega))
 refine dA 0 ?_ (x := lF dJ)
 refine dA 64 ?_ (x := lD [sl .v _] dm)
 refine dA 0 ?_ (x := sM)
 refine dA 256 ?_ (x := gI)
 refine dA 960 ?_ (x := wd (i := (i + 1)) (j := za.length) (ys := (za.drop (i + 1))) (r := ((za.length : Nat) : Int)) (by decide) bJ (by exact ⟨⟩) (by exact rfl) (by omega) (by rfl) (by omega) (by omega) (fun _ => rfl) (by rw [List.take_length]))
 refine dA 2047 ?_ (x := gp (by decide) bJ fe rfl rfl (by decide) (by intro cs hcs; obtain ⟨x, _, rfl⟩ := List.mem_map.1 hcs; exact rfl) (by intro cs hcs; obtain ⟨x, _, rfl⟩ := List.mem_map.1 hcs; exact (by exact lq)) (by simp only [List.length_map, List.length_append, List.length_cons, List.length_nil, List.length_drop, List.length_take]; omega) (by simp only [List.length_map, List.length_append, List.length_cons, List.length_nil, List.length_drop, List.length_take]; omega))
 refine dA 4095 ?_ (x := lF dJ)
 refine dA 8191 ?_ (x := aQ (ag := false) (vs := [sl _ _]) dm (by exact ⟨⟩) (by exact rfl) (by exact nl rfl))
 refine aJ ?_
 refine sO [(1, _), (2, _), (4, _), (5, _), (6, _), (7, _), (6200, _)] [(2, _), (4, _), (6, (32, [sl _ _, val _, val _, sl _ _, sl _ _, sl _ _, sl _ _, val _]))] ?_
 refine cD (d := 6) (by exact rfl) (show _ = [sl (.own 139 1) (e.Store.Segments.map (ax (.own 184 4) (.own 3 1))), val (vI e.Store.Now), val (vI e.Cursor), sl (.own 3 1) (e.Order.map ai), sl (.own 108 10) ((fX za i).map fx), sl (.own 63 7) (e.Done.map (aP (.own 178 3) (.own 3 1) (.own 54 2) (.own 3 1))), sl (.own 70 5) (e.Ledger.map (aR (.own 3 1) (.own 3 1) (.own 3 1))), val (vI e.Steps)] from by unfold fX; simp only [List.map_append]; exact rfl) ?_
 refine sP [1, 2, 4, 5, 6, 7, 6200] [2, 4, 6] ?_
 refine BV (d := 6) (t := 108) (e := 10) (G := 6200) (A := [sl _ _, val _, val _, sl _ _]) (B := [sl _ _, sl _ _, val _]) (f := (aG (.own 178 3) (.own 3 1) (.own 3 1) (.own 54 2) (.own 3 1))) (g := (fun z : Active => [val (vI z.Query.Id), val (vI z.Query.Tenant), sl .v (z.Query.Conds.map bR), sl .v (z.Query.Out.map ai), val (vI z.Time), sl .v (z.Todo.map ai), val (vI z.Age), val (vI z.Sent), val (vI z.Cap), sl .v (z.Rows.map (bn (.own 3 1)))])) (fN := fx) (ys := (fX za i)) [za[i]] (fX e.Active i) (by exact rfl) (by exact rfl) (fun _ _ => rfl) (fun _ => rfl) (fun _ => rfl) (KV (by omega)) (RM hza) ?_
 refine sO [(1, _), (2, _), (4, _), (5, _), (6, _), (7, _)] [(2, _), (4, _), (6, (32, [sl _ _, val _, val _, sl _ _, sl _ _, sl _ _, sl _ _, val _]))] ?_
 refine mK ?_
 refine wO [(1, _), (2, _), (4, _), (5, _), (6, _), (7, _)] [(2, _), (4, _), (6, _)] ?_
 refine qd (bx := 6) (L := (Lw w0.heap.size)) (qs := []) (as_ := []) (by decide) y9 rfl (by exact rfl) (by exact rfl) (by exact ⟨⟩) (by exact ⟨⟩) (by decide) (by exact ⟨⟩) (by exact (An (e := nW e i) (by omega))) (fun x hx => hx) (by exact lq) (by exact lq) ?_
 refine og ?_
 refine aJ ?_
 refine sO [(1, _), (2, _), (4, _), (5, _), (6, _), (7, _)] [(2, _), (4, _), (6, (32, [sl _ _, val _, val _, sl _ _, sl _ _, sl _ _, sl _ _, val _]))] ?_
 refine aM ?_
 refine mg ?_
 exact (Exists.intro 4 (Exists.intro _ (aI (by exact rfl) (aI (by refine cW ?_; rw [zS hok hf]; exact rfl) (aI a7 (aI (fun h => nomatch h) (aI (by refine fD ?_; rw [zS hok hf]) tI)))))))
end Go.Proofs.YtmekkgdboplbjaaGreat
