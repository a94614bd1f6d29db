/- What functions of the program compute. No condition. -/
import Derived.Test.YtmekkgdboplbjaaGreatCC1
import Derived.Test.YtmekkgdboplbjaaGreatCD1
import Derived.Test.YtmekkgdboplbjaaGreatCE1
import Derived.Test.YtmekkgdboplbjaaGreatCW0
import Derived.Test.YtmekkgdboplbjaaGreatCY0
import Derived.Test.YtmekkgdboplbjaaGreatCG1
set_option linter.unusedVariables false
set_option linter.unusedSimpArgs false
namespace Go.Proofs.YtmekkgdboplbjaaGreat
open Go Go.RowKit M PV
set_option maxRecDepth 10000
attribute [local irreducible] PV.Lcl PV.LclR RV.Lcl
set_option maxHeartbeats 8000000
theorem S8 {p1 p2 p5 p6 p7 p8 p9 p11 p12 p13 p14 p16 p17 p18 : Fl} {e : am} {n : Int}  (hb : aO e ≤ 68718000000) : aw Tryz.prog 12 [(true, [sl .v (e.Store.Segments.map (ax p1 p2)), val (vI e.Store.Now), val (vI e.Cursor), sl .v (e.Order.map ai), sl .v (e.Active.map (aG p5 p6 p7 p8 p9)), sl .v (e.Done.map (aP p11 p12 p13 p14)), sl .v (e.Ledger.map (aR p16 p17 p18)), val (vI e.Steps)]), (false, [val (vI n)])] (av [(true, [sl (.own 139 1) ((fL e n).Store.Segments.map (ax (.own 184 4) (.own 3 1))), val (vI (fL e n).Store.Now), val (vI (fL e n).Cursor), sl (.own 3 1) ((fL e n).Order.map ai), sl (.own 108 10) ((fL e n).Active.map (aG (.own 178 3) (.own 3 1) (.own 3 1) (.own 54 2) (.own 3 1))), sl (.own 63 7) ((fL e n).Done.map (aP (.own 178 3) (.own 3 1) (.own 54 2) (.own 3 1))), sl (.own 70 5) ((fL e n).Ledger.map (aR (.own 3 1) (.own 3 1) (.own 3 1))), val (vI (fL e n).Steps)])]) := by
 refine sF Tryz.func12 fun h0 w0 Fz0 => ?_
 refine sn 0 0 fun hl0_0 => ?_
 refine sn 0 3 fun hl0_3 => ?_
 refine sn 0 4 fun hl0_4 => ?_
 refine sn 0 5 fun hl0_5 => ?_
 refine sn 0 6 fun hl0_6 => ?_
 have hbu := hb
 simp only [aO, fp, gK, f4] at hbu
 refine kk ?_
 refine sT [1, 2, 4] [2, 4] ?_
 refine xj ?_
 refine jH ?_
 refine xE ?_
 refine bw ?_
 refine sP [1, 2, 4, 5, 6] [2, 4, 5] ?_
 refine sL [1, 2, 4, 5] [2, 4] (fun k : Nat => k ≤ du n) (fun k : Nat => [(6, RV.int (k : Int))]) (fun k : Nat => [(5, (32, [sl (.own 139 1) ((dv e k).Store.Segments.map (ax (.own 184 4) (.own 3 1))), val (vI (dv e k).Store.Now), val (vI (dv e k).Cursor), sl (.own 3 1) ((dv e k).Order.map ai), sl (.own 108 10) ((dv e k).Active.map (aG (.own 178 3) (.own 3 1) (.own 3 1) (.own 54 2) (.own 3 1))), sl (.own 63 7) ((dv e k).Done.map (aP (.own 178 3) (.own 3 1) (.own 54 2) (.own 3 1))), sl (.own 70 5) ((dv e k).Ledger.map (aR (.own 3 1) (.own 3 1) (.own 3 1))), val (vI (dv e k).Steps)]))]) (fun k : Nat => du n - k) 0 (by omega) (by exact aI (by exact rfl) (tI)) (by exact aI (by exact rfl) (tI)) ?_
 rintro k hk
 have hrw := zZ e k
 have hrl := rU n
 refine bu ?_
 refine rM ?_
 refine ll ?_
 refine cx 12 (fun ga sga => ?_) (fun ga sga => ?_)
 refine ut ?_
 refine sc (fun hba => ?_) (fun hba => ?_)
 have hlt : k < du n := by unfold du; first | omega | (simp_all; omega)
 refine aT ?_
 refine HZ ?_
 refine rA ?_ (x := cL [(true, [sl _ _, val _, val _, sl _ _, sl _ _, sl _ _, sl _ _, val _])] [(true, [sl .v _, val _, val _, sl .v _, sl .v _, sl .v _, sl .v _, val _])] JW (hs := by exact (Ls (e := dv e k) (by omega))))
 exact Em
 exact EB
 refine jJ ?_
 exact EB
theorem LC {p1 p2 p5 p6 p7 p8 p9 p11 p12 p13 p14 p16 p17 p18 : Fl} {e : am} {u : Update}  (hb : aO e ≤ 68718000000) (hbu0 : mj u ≤ 68718000000) : aw Tryz.prog 89 [(true, [sl .v (e.Store.Segments.map (ax p1 p2)), val (vI e.Store.Now), val (vI e.Cursor), sl .v (e.Order.map ai), sl .v (e.Active.map (aG p5 p6 p7 p8 p9)), sl .v (e.Done.map (aP p11 p12 p13 p14)), sl .v (e.Ledger.map (aR p16 p17 p18)), val (vI e.Steps)]), (true, [val (vI u.Kind), val (vI u.Row.Id), sl .v (u.Row.Values.map ai), val (vI u.Field), val (vI u.Value)])] (av [(true, [sl (.own 139 1) ((d7 e u).1.Store.Segments.map (ax (.own 184 4) (.own 3 1))), val (vI (d7 e u).1.Store.Now), val (vI (d7 e u).1.Cursor), sl (.own 3 1) ((d7 e u).1.Order.map ai), sl (.own 108 10) ((d7 e u).1.Active.map (aG (.own 178 3) (.own 3 1) (.own 3 1) (.own 54 2) (.own 3 1))), sl (.own 63 7) ((d7 e u).1.Done.map (aP (.own 178 3) (.own 3 1) (.own 54 2) (.own 3 1))), sl (.own 70 5) ((d7 e u).1.Ledger.map (aR (.own 3 1) (.own 3 1) (.own 3 1))), val (vI (d7 e u).1.Steps)]), (false, [val (.bool (d7 e u).2)])]) := by
 refine kX (largs := fun L => [(true, [sl (.lo L) (e.Store.Segments.map (ax (.lo L) (.lo L))), val (vI e.Store.Now), val (vI e.Cursor), sl (.lo L) (e.Order.map ai), sl (.lo L) (e.Active.map (aG (.lo L) (.lo L) (.lo L) (.lo L) (.lo L))), sl (.lo L) (e.Done.map (aP (.lo L) (.lo L) (.lo L) (.lo L))), sl (.lo L) (e.Ledger.map (aR (.lo L) (.lo L) (.lo L))), val (vI e.Steps)]), (true, [val (vI u.Kind), val (vI u.Row.Id), sl (.lo L) (u.Row.Values.map ai), val (vI u.Field), val (vI u.Value)])]) (rs := [(true, [sl (.own 139 1) ((d7 e u).1.Store.Segments.map (ax (.own 184 4) (.own 3 1))), val (vI (d7 e u).1.Store.Now), val (vI (d7 e u).1.Cursor), sl (.own 3 1) ((d7 e u).1.Order.map ai), sl (.own 108 10) ((d7 e u).1.Active.map (aG (.own 178 3) (.own 3 1) (.own 3 1) (.own 54 2) (.own 3 1))), sl (.own 63 7) ((d7 e u).1.Done.map (aP (.own 178 3) (.own 3 1) (.own 54 2) (.own 3 1))), sl (.own 70 5) ((d7 e u).1.Ledger.map (aR (.own 3 1) (.own 3 1) (.own 3 1))), val (vI (d7 e u).1.Steps)]), (false, [val (.bool (d7 e u).2)])]) Tryz.func89 rfl (nl rfl) (fun L => by exact (aI (aI rfl (ah.cons (PV.tob_map (fun _ => nl rfl) (fun _ => (ah.cons (PV.tob_map (fun _ => nl rfl) (fun _ => (ah.cons PV.tob_refl (ah.cons (PV.tob_map (fun _ => nl rfl) (fun _ => (ah.cons PV.tob_refl ah.nil))) (ah.cons PV.tob_refl (ah.cons PV.tob_refl ah.nil)))))) ah.nil))) (ah.cons PV.tob_refl (ah.cons PV.tob_refl (ah.cons (PV.tob_map (fun _ => nl rfl) (fun _ => (ah.cons PV.tob_refl ah.nil))) (ah.cons (PV.tob_map (fun _ => nl rfl) (fun _ => (ah.cons PV.tob_refl (ah.cons PV.tob_refl (ah.cons (PV.tob_map (fun _ => nl rfl) (fun _ => (ah.cons PV.tob_refl (ah.cons PV.tob_refl (ah.cons PV.tob_refl ah.nil))))) (ah.cons (PV.tob_map (fun _ => nl rfl) (fun _ => (ah.cons PV.tob_refl ah.nil))) (ah.cons PV.tob_refl (ah.cons (PV.tob_map (fun _ => nl rfl) (fun _ => (ah.cons PV.tob_refl ah.nil))) (ah.cons PV.tob_refl (ah.cons PV.tob_refl (ah.cons PV.tob_refl (ah.cons (PV.tob_map (fun _ => nl rfl) (fun _ => (ah.cons PV.tob_refl (ah.cons (PV.tob_map (fun _ => nl rfl) (fun _ => (ah.cons PV.tob_refl ah.nil))) ah.nil)))) ah.nil)))))))))))) (ah.cons (PV.tob_map (fun _ => nl rfl) (fun _ => (ah.cons PV.tob_refl (ah.cons PV.tob_refl (ah.cons (PV.tob_map (fun _ => nl rfl) (fun _ => (ah.cons PV.tob_refl (ah.cons PV.tob_refl (ah.cons PV.tob_refl ah.nil))))) (ah.cons (PV.tob_map (fun _ => nl rfl) (fun _ => (ah.cons PV.tob_refl ah.nil))) (ah.cons PV.tob_refl (ah.cons PV.tob_refl (ah.cons (PV.tob_map (fun _ => nl rfl) (fun _ => (ah.cons PV.tob_refl (ah.cons (PV.tob_map (fun _ => nl rfl) (fun _ => (ah.cons PV.tob_refl ah.nil))) ah.nil)))) ah.nil))))))))) (ah.cons (PV.tob_map (fun _ => nl rfl) (fun _ => (ah.cons PV.tob_refl (ah.cons PV.tob_refl (ah.cons (PV.tob_map (fun _ => nl rfl) (fun _ => (ah.cons PV.tob_refl ah.nil))) (ah.cons (PV.tob_map (fun _ => nl rfl) (fun _ => (ah.cons PV.tob_refl ah.nil))) (ah.cons (PV.tob_map (fun _ => nl rfl) (fun _ => (ah.cons PV.tob_refl ah.nil))) ah.nil))))))) (ah.cons PV.tob_refl ah.nil))))))))) (aI (aI rfl (ah.cons PV.tob_refl (ah.cons PV.tob_refl (ah.cons (PV.tob_map (fun _ => nl rfl) (fun _ => (ah.cons PV.tob_refl ah.nil))) (ah.cons PV.tob_refl (ah.cons PV.tob_refl ah.nil)))))) tI))) (fun L => by exact lq) ?_
 intro w0 Fz0
 refine sn 0 0 fun hl0_0 => ?_
 refine sn 0 3 fun hl0_3 => ?_
 refine sn 0 4 fun hl0_4 => ?_
 refine sn 0 5 fun hl0_5 => ?_
 refine sn 0 6 fun hl0_6 => ?_
 refine sn 1 2 fun hl1_2 => ?_
 have hbu := hb
 simp only [aO, fp, gK, f4] at hbu
 have haw := K3 e.Store u
 have hww := K4 e u
 refine tB ?_
 refine rX ?_ (x := (db (ag := true) (cs := [val _, val _, sl (.lo _) _, val _, val _]) (by decide) (by exact ⟨⟩)))
 refine tQ ?_
 refine sO [(2, _), (3, _), (4, _), (5, _)] [(2, (32, [sl (.lo _) _, val _, val _, sl (.lo _) _, sl (.lo _) _, sl (.lo _) _, sl (.lo _) _, val _])), (3, (56, [val _, val _, sl (.lo _) _, val _, val _])), (4, (32, [sl _ _, val _, val _, sl _ _, sl _ _, sl _ _, sl _ _, val _]))] ?_
 refine xn ?_
 refine jH ?_
 refine sO [(2, _), (3, _), (4, _), (5, _), (6, _)] [(2, _), (3, _), (4, _), (6, (32, [sl _ _, val _, val _, sl _ _, sl _ _, sl _ _, sl _ _, val _]))] ?_
 refine Ge ?_
 refine rA ?_ (x := nT)
 refine sc (fun hba => ?_) (fun hba => ?_)
 have hno : (aH e && (da e.Store u).2) = false := by first | (simp_all; done) | (cases h1_ : aH e <;> cases h2_ : (da e.Store u).2 <;> simp_all)
 refine sS [2, 3, 4, 5, 6] [2, 3, 4, 6] ?_
 exact EC
 refine aN ?_
 refine sS [2, 3, 4, 5, 6] [2, 3, 4, 6] ?_
 refine rA ?_ (x := lF ee)
 refine rA ?_ (x := lD [sl (.lo _) _, val _] cq)
 refine rA ?_ (x := lD [val _, val _, sl (.lo _) _, val _, val _] nF)
 refine rA ?_ (x := cL [(true, [sl (.lo _) _, val _]), (true, [val _, val _, sl (.lo _) _, val _, val _])] [(true, [sl .v _, val _]), (true, [val _, val _, sl .v _, val _, val _])] JJ (hs := by exact (LA (by omega) (by omega))))
 refine rA ?_ (x := tM)
 refine tm ?_
 refine lf ?_
 refine rS ?_
 refine dH ?_
 refine sO [(2, _), (3, _), (4, _), (5, _), (6, _), (7, _), (8, _)] [(2, _), (3, _), (4, _), (6, _), (7, (26, [sl _ _, val _]))] ?_
 refine iL ?_
 refine rA ?_ (x := nT)
 refine sc (fun hbb => ?_) (fun hbb => ?_)
 have hno : (aH e && (da e.Store u).2) = false := by first | (simp_all; done) | (cases h1_ : aH e <;> cases h2_ : (da e.Store u).2 <;> simp_all)
 refine sS [2, 3, 4, 5, 6, 7, 8] [2, 3, 4, 6, 7] ?_
 exact EC
 have hok : (aH e && (da e.Store u).2) = true := by first | (simp_all; done) | (cases h1_ : aH e <;> cases h2_ : (da e.Store u).2 <;> simp_all)
 refine aN ?_
 refine sS [2, 3, 4, 5, 6, 7, 8] [2, 3, 4, 6, 7] ?_
 refine rA ?_ (x := b8 (ms := [sl _ _, val _]) (qs := [any, val _]) (by decide) cq (fun h => nomatch h) (by exact nl rfl) (by exact rfl) (by exact (ab.cons PV.to_any (ab.cons (PV.To.refl _) ab.nil))) (by exact (ae.cons (bor_any) (ae.cons (bor_val _) ae.nil))))
 refine xD ?_
 refine aJ ?_
 refine sO [(2, _), (3, _), (4, _), (5, _), (6, _), (7, _), (8, _)] [(2, _), (3, _), (4, _), (6, (32, [sl _ _, val _, val _, sl _ _, sl _ _, sl _ _, sl _ _, val _])), (7, (26, [any, val _]))] ?_
 refine mK ?_
 refine wO [(2, _), (3, _), (4, _), (5, _), (6, _), (7, _), (8, _)] [(2, _), (3, _), (4, _), (6, _), (7, _)] ?_
 refine qd (bx := 6) (L := (Lw w0.heap.size)) (qs := []) (as_ := []) (by decide) y9 rfl (by exact rfl) (by exact rfl) (by exact ⟨⟩) (by exact ⟨⟩) (by decide) (by exact ⟨⟩) (by exact (An (e := nY e (da e.Store u).1) (by omega))) (fun x hx => hx) (by exact lq) (by exact lq) ?_
 refine og ?_
 refine aJ ?_
 refine sO [(2, _), (3, _), (4, _), (5, _), (6, _), (7, _), (8, _)] [(2, _), (3, _), (4, _), (6, (32, [sl _ _, val _, val _, sl _ _, sl _ _, sl _ _, sl _ _, val _])), (7, _)] ?_
 refine aM ?_
 refine mg ?_
 exact (Exists.intro 4 (Exists.intro _ (aI (by exact rfl) (aI (by refine cW ?_; rw [z4 hok]; exact rfl) (aI a7 (aI (fun h => nomatch h) (aI (by refine fD ?_; rw [z4 hok]) tI)))))))
end Go.Proofs.YtmekkgdboplbjaaGreat
