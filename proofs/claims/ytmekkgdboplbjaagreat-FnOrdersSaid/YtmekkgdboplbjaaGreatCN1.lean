/- What functions of the program compute. No condition. -/
import Derived.Test.YtmekkgdboplbjaaGreatCM1
import Derived.Test.YtmekkgdboplbjaaGreatCZ0
import Derived.Test.YtmekkgdboplbjaaGreatCH1
set_option linter.unusedVariables false
set_option linter.unusedSimpArgs false
namespace Go.Proofs.YtmekkgdboplbjaaGreat
open Go Go.RowKit M PV
set_option maxRecDepth 10000
attribute [local irreducible] PV.Lcl PV.LclR RV.Lcl
set_option maxHeartbeats 8000000
attribute [local irreducible] aj fM
theorem Uc {c : aC}  : fE Tryz.prog 170 192 (cO .v c) (cO .v (j5 c).2) [] (av [(false, [sl (.own 3 1) ((j5 c).1.map ai)])]) := by
 refine gG (rs := [(false, [sl (.own 3 1) ((j5 c).1.map ai)])]) Tryz.func170 rfl (nl rfl) (nl rfl) ?_
 intro g_ h0 w0 Fz0
 refine M4 (fun L => [(0, RV.ptr 0 0), (5000, RV.phi 0 g_)]) (fun L => [(0, (192, [sl (.lo L) (c.b.map kw), val (vI (c.i : Int)), val (vI c.h)]))]) (fun L => by exact (kg.cons jA.ptr (kg.cons jA.phi tI))) (fun L => by exact (k7.cons (ah.cons (PV.tob_map (fun _ => nl rfl) (fun _ => (ah.cons PV.tob_refl ah.nil))) (ah.cons PV.tob_refl (ah.cons PV.tob_refl ah.nil))) (ae.cons (bor_lo _ _) (ae.cons (bor_val _) (ae.cons (bor_val _) ae.nil))) tI)) fun Bl w0 Fz0 => ?_
 have hb11 := di c 6
 have hb12 := dw c (n := 6) (by decide)
 have h6_ : bi.length = 6 := rfl
 have hob : (lW c).1 = (aj c 6).1 := rfl
 have hk6 : (lW c).1.toNat < bi.length := by unfold lW; omega
 have hol := Az c
 have hv0 : 0 < (kS c).length := by omega
 have hol3 : (bi.getD (lW c).1.toNat []).length = 3 := Az c
 refine jD ?_
 refine aJ ?_
 refine sO [(0, _), (2, _), (5000, _)] [(0, (192, [sl (.lo _) _, val _, val _]))] ?_
 refine aM ?_
 refine rA ?_ (x := bd (qs := []) (by decide) a3 ce (by decide) rfl rfl rfl rfl rfl (by exact nl rfl) (by exact ⟨⟩) rfl)
 refine rA ?_ (x := cL [] [] JI (hs := by exact Lu))
 refine rA ?_ (x := cM Cp.ptr)
 refine rA ?_ (x := c9 (bx := 0) (qs := [(false, [val _])]) (as_ := [(false, [val _])]) (by decide) lM rfl (by exact (aI (aY rfl) tI)) (by exact (aI (aI rfl (ab.cons (PV.To.refl _) ab.nil)) tI)) (by exact (ae.cons (bor_lo _ _) (ae.cons (bor_val _) (ae.cons (bor_val _) ae.nil)))) (by exact (cI (ae.cons (bor_val _) ae.nil) cr)) (by exact (lU (fun es => bor_lo _ es) (by omega))))
 refine rA ?_ (x := aD (k := (lW c).1.toNat) (by decide) nS (by exact ⟨⟩) (by omega) (by exact aE hk6 (by rw [cX (d := ([] : List Int)) hk6])) (by exact rfl))
 refine tj ?_
 refine i6 ?_
 refine sS [0, 2, 3, 5000] [0] ?_
 refine rA ?_ (x := cM Cp.ptr)
 refine rA ?_ (x := c9 (bx := 0) (qs := [(false, [val _])]) (as_ := [(false, [val _])]) (by decide) ze rfl (by exact (aI (aY rfl) tI)) (by exact (aI (aI rfl (ab.cons (PV.To.refl _) ab.nil)) tI)) (by exact (ae.cons (bor_lo _ _) (ae.cons (bor_val _) (ae.cons (bor_val _) ae.nil)))) (by exact (cI (ae.cons (bor_val _) ae.nil) cr)) (by exact (Ar (fun es => bor_lo _ es) (by omega))))
 refine sc (fun hba => ?_) (fun hba => ?_)
 have hr := TN (c := c) hba
 refine sP [0, 2, 3, 5000] [0] ?_
 refine wk (s := 3) (D := 900) (G := 2900) (E := 3) (e := 1) (L := Bl) (es := ((kS c)).map ai) (by exact rfl) (hZ hv0) (by exact rfl) (by exact rfl) rfl (by exact rfl) (fun x hx => hx) (by exact lq) (by exact lq) (ak.map fun x => (ak.cons lcl_val ak.nil)) fun uu900 cp900 jk900 hlD900 hcp900 hjk900 => ?_
 rw [List.length_map] at hlD900 hcp900 hjk900
 refine cD (d := 900) (by exact rfl) (hY (k := 0) hv0) ?_
 have hA900 := ia (f := ai) (e := 1) (xs := (kS c)) (k := 0) (fun _ => rfl) (Nat.le_of_lt hv0)
 refine sO [(0, _), (2, _), (3, _), (2900, _), (5000, _)] [(0, _), (900, (3, _ ++ ([val _] ++ _)))] ?_
 refine aM ?_
 refine rA ?_ (x := vM false [val _])
 refine rA ?_ (x := cM Cp.ptr)
 refine rA ?_ (x := bd (qs := [(false, [val _]), (false, [val _]), (false, [val _])]) (by decide) a3 ce (by decide) rfl rfl rfl rfl rfl (by exact nl rfl) (by exact (aI (aY rfl) (aI (aY rfl) (aI (aY rfl) tI)))) rfl)
 refine rA ?_ (x := c9 (bx := 0) (qs := [(false, [sl _ _])]) (as_ := [(false, [sl .v _])]) (by decide) pt rfl (by exact (aI (by exact ⟨⟩) tI)) (by exact (aI (aI rfl (ab.cons PV.to_none ab.nil)) tI)) (by exact (ae.cons (bor_lo _ _) (ae.cons (bor_val _) (ae.cons (bor_val _) ae.nil)))) (by exact (cI (ae.cons (bor_sl _) ae.nil) cr)) (by exact (pM (l := [-1, 0, 3]) (fun es => bor_lo _ es) (by decide) (by decide))))
 refine rA ?_ (x := fT (k := 0) (G := 2900) (by decide) a3 (aY rfl) (by rfl) (by first | (rw [List.length_map]; exact hv0) | exact hv0))
 refine rA ?_ (x := kd (o := 0) (ag := false) (vs := [val _]) (by omega) aq (by exact ⟨⟩) (by exact rfl) (by exact nl rfl))
 refine cD (d := 900) (by exact rfl) (kZ ((aU (j4 c).2 [-1, 0, 3]).1) hv0 (by exact rfl)) ?_
 refine Bj (s := 3) (D := 900) (G := 2900) (e := 1) (es := (((kS c)).set 0 ((aU (j4 c).2 [-1, 0, 3]).1)).map ai) (by exact rfl) (by exact rfl) (by exact rfl) rfl (by decide) (by rw [List.length_map, List.length_set, List.length_map]) (by intro c hc; obtain ⟨y, _, rfl⟩ := List.mem_map.1 hc; exact rfl) (by rw [List.length_map]; exact hjk900) ?_
 exact ES
 have hr := TO (c := c) hba
 refine aN ?_
 exact ES
theorem Ud {o : Fl} {c : aC} (hbo : ∀ es, (sl o es).Bor) {most : Int}  (hm : 0 < most ∧ most ≤ 100) : fE Tryz.prog 168 192 (cO o c) (cO o (cB c most).c) [(false, [val (vI most)])] (av [(true, [sl (.own 139 1) ((cB c most).e.Store.Segments.map (ax (.own 184 4) (.own 3 1))), val (vI (cB c most).e.Store.Now), val (vI (cB c most).e.Cursor), sl (.own 3 1) ((cB c most).e.Order.map ai), sl (.own 108 10) ((cB c most).e.Active.map (aG (.own 178 3) (.own 3 1) (.own 3 1) (.own 54 2) (.own 3 1))), sl (.own 63 7) ((cB c most).e.Done.map (aP (.own 178 3) (.own 3 1) (.own 54 2) (.own 3 1))), sl (.own 70 5) ((cB c most).e.Ledger.map (aR (.own 3 1) (.own 3 1) (.own 3 1))), val (vI (cB c most).e.Steps)])]) := by
 refine gG (rs := [(true, [sl (.own 139 1) ((cB c most).e.Store.Segments.map (ax (.own 184 4) (.own 3 1))), val (vI (cB c most).e.Store.Now), val (vI (cB c most).e.Cursor), sl (.own 3 1) ((cB c most).e.Order.map ai), sl (.own 108 10) ((cB c most).e.Active.map (aG (.own 178 3) (.own 3 1) (.own 3 1) (.own 54 2) (.own 3 1))), sl (.own 63 7) ((cB c most).e.Done.map (aP (.own 178 3) (.own 3 1) (.own 54 2) (.own 3 1))), sl (.own 70 5) ((cB c most).e.Ledger.map (aR (.own 3 1) (.own 3 1) (.own 3 1))), val (vI (cB c most).e.Steps)])]) Tryz.func168 rfl (nl rfl) (nl rfl) ?_
 intro g_ h0 w0 Fz0
 have hso0 := Am c
 have hn1 := Aw c hm.1
 have hm1 := di (gD c).c most
 have hm2 := dw (gD c).c (n := most) hm.1
 refine qS ?_
 refine aJ ?_
 refine sO [(0, _), (1, _), (4, _), (5000, _)] [(0, (192, [sl o _, val _, val _])), (4, (32, [sl _ _, val _, val _, sl _ _, sl _ _, sl _ _, sl _ _, val _]))] ?_
 refine jE ?_
 refine rA ?_ (x := c9 (bx := 0) (qs := []) (as_ := []) (by decide) Qb rfl (by exact ⟨⟩) (by exact ⟨⟩) (by exact (ae.cons (hbo _) (ae.cons (bor_val _) (ae.cons (bor_val _) ae.nil)))) (by exact cr) (by exact (Ua hbo)))
 refine rA ?_ (x := cL [(true, [sl _ _, val _])] [(true, [sl .v _, val _])] P9 (hs := by exact (Ub (s := (gD c).s) hso0)))
 refine ro ?_
 refine iI ?_
 refine rS ?_
 refine dH ?_
 refine sO [(0, _), (1, _), (4, _), (5, _), (6, _), (5000, _)] [(0, _), (4, _), (5, (32, [sl _ _, val _, val _, sl _ _, sl _ _, sl _ _, sl _ _, val _]))] ?_
 refine jE ?_
 refine qu ?_
 refine rS ?_
 refine iE ?_
 refine sP [0, 1, 4, 5, 6, 7, 5000] [0, 4, 5] ?_
 refine sL [0, 1, 4, 5, 6, 5000] [4] (fun k : Nat => k ≤ j3 c most) (fun k : Nat => [(7, RV.int ((j3 c most : Int) - (k : Int)))]) (fun k : Nat => [(0, (192, cO o (bb (bc c most) k).c)), (5, (32, [sl (.own 139 1) ((bb (bc c most) k).e.Store.Segments.map (ax (.own 184 4) (.own 3 1))), val (vI (bb (bc c most) k).e.Store.Now), val (vI (bb (bc c most) k).e.Cursor), sl (.own 3 1) ((bb (bc c most) k).e.Order.map ai), sl (.own 108 10) ((bb (bc c most) k).e.Active.map (aG (.own 178 3) (.own 3 1) (.own 3 1) (.own 54 2) (.own 3 1))), sl (.own 63 7) ((bb (bc c most) k).e.Done.map (aP (.own 178 3) (.own 3 1) (.own 54 2) (.own 3 1))), sl (.own 70 5) ((bb (bc c most) k).e.Ledger.map (aR (.own 3 1) (.own 3 1) (.own 3 1))), val (vI (bb (bc c most) k).e.Steps)]))]) (fun k : Nat => j3 c most - k) 0 (by omega) (by exact aI (by exact bf (by unfold j3; omega)) (tI)) (by exact aI (by exact rfl) (aI (by exact rfl) (tI))) ?_
 rintro k hk
 have heb := Ax c most k (by omega)
 have hew := Ay c most k
 have hso := (fB.1 heb.ok).so
 have hqw := Lb (iY (bb (bc c most) k).c).2 (iY (bb (bc c most) k).c).1
 have huw := Lm (bN (bb (bc c most) k).c).2 (bb (bc c most) k).e.Store
 have hb31 := di (bN (bb (bc c most) k).c).2 6
 have hb32 := dw (bN (bb (bc c most) k).c).2 (n := 6) (by decide)
 refine uw ?_
 refine sc (fun hba => ?_) (fun hba => ?_)
 have hlt : k < j3 c most := by omega
 refine cE ?_
 refine sO [(0, _), (1, _), (4, _), (5, _), (6, _), (7, _), (5000, _)] [(0, (192, [sl o _, val _, val _])), (4, (32, [sl _ _, val _, val _, sl _ _, sl _ _, sl _ _, sl _ _, val _])), (5, (32, [sl _ _, val _, val _, sl _ _, sl _ _, sl _ _, sl _ _, val _]))] ?_
 refine xh ?_
 refine jH ?_
 refine sO [(0, _), (1, _), (4, _), (5, _), (6, _), (7, _), (8, _), (5000, _)] [(0, _), (4, _), (5, (32, [sl _ _, val _, val _, sl _ _, sl _ _, sl _ _, sl _ _, val _])), (8, (32, [sl _ _, val _, val _, sl _ _, sl _ _, sl _ _, sl _ _, val _]))] ?_
 refine aM ?_
 refine ic ?_
 refine iE ?_
 refine aJ ?_
 refine zss ?_
 refine sc (fun hbb => ?_) (fun hbb => ?_)
 have hk0 : (bN (bb (bc c most) k).c).1 = 0 ∨ (bN (bb (bc c most) k).c).1 = 1 := .inl hbb
 have hxn := Av (x := (bb (bc c most) k)) hk0
 refine aN ?_
 refine sc (fun hbc => ?_) (fun hbc => ?_)
 have hk0 : (bN (bb (bc c most) k).c).1 = 0 ∨ (bN (bb (bc c most) k).c).1 = 1 := by first | assumption | exact .inr hbc | exact .inr (by simpa using hbc)
 have hxn := Av (x := (bb (bc c most) k)) hk0
 refine G9 ?_
 refine qt ?_
 refine dX 0 ?_ (x := (eG (.inl rfl) (by decide) (by exact Cp.ptr)))
 refine E6 ?_
 refine dX 0 ?_ (x := (eG (.inl rfl) (by decide) (by exact Cp.ptr)))
 refine Fc ?_
 refine jy (G := 2000) (qs := [(true, [sl _ _, val _, val _, sl _ _, sl _ _, sl _ _, sl _ _, val _]), (true, [val _, val _, sl _ _, sl _ _]), (false, [val _])]) (as_ := [(true, [sl .v _, val _, val _, sl .v _, sl .v _, sl .v _, sl .v _, val _]), (true, [val _, val _, sl .v _, sl .v _]), (false, [val _])]) (by decide) J3 (by exact ⟨rfl, rfl, rfl, ⟨⟩⟩) (by exact (aI (by exact ⟨⟩) (aI (by exact ⟨⟩) (aI (by exact ⟨⟩) tI)))) (by exact (aI (aI rfl (ab.cons PV.to_none (ab.cons (PV.To.refl _) (ab.cons (PV.To.refl _) (ab.cons PV.to_none (ab.cons PV.to_none (ab.cons PV.to_none (ab.cons PV.to_none (ab.cons (PV.To.refl _) ab.nil))))))))) (aI (aI rfl (ab.cons (PV.To.refl _) (ab.cons (PV.To.refl _) (ab.cons PV.to_none (ab.cons PV.to_none ab.nil))))) (aI (aI rfl (ab.cons (PV.To.refl _) ab.nil)) tI)))) (by exact (Ly (e := (bb (bc c most) k).e) (q := (lV (bb (bc c most) k).c).1) (l := (n7 (bb (bc c most) k).c).1) (by omega) (by unfold lV; omega))) (by kernel_rfl) (by kernel_rfl) fun uss hU0 => ?_
 obtain ⟨us0, r0, rfl, hl0, hR0, hU1⟩ := ct.cons hU0
 obtain ⟨u4_0_0, u4_0_1, u4_0_2, u4_0_3, u4_0_4, u4_0_5, u4_0_6, u4_0_7, rfl⟩ := nA hl0
 obtain rfl := dc hR0 (j := 1) rfl rfl
 obtain rfl := dc hR0 (j := 2) rfl rfl
 obtain rfl := dc hR0 (j := 7) rfl rfl
 obtain ⟨us1, r1, rfl, hl1, hR1, hU2⟩ := ct.cons hU1
 obtain ⟨u4_1_0, rfl⟩ := i9 hl1
 exact EU
 have hk0 : ¬ ((bN (bb (bc c most) k).c).1 = 0 ∨ (bN (bb (bc c most) k).c).1 = 1) := by intro hc_; rcases hc_ with hc_ | hc_ <;> first | exact hk00 hc_ | exact hbc hc_ | (simp_all; done)
 refine zss ?_
 refine sc (fun hbd => ?_) (fun hbd => ?_)
 have hk2 : (bN (bb (bc c most) k).c).1 = 2 := hbd
 have hxn := LM (x := (bb (bc c most) k)) hk0 hk2
 refine Ha ?_
 refine qt ?_
 refine dX 0 ?_ (x := (ss (by decide) ee))
 refine E9 ?_
 refine jy (G := 2000) (qs := [(true, [sl _ _, val _, val _, sl _ _, sl _ _, sl _ _, sl _ _, val _]), (true, [val _, val _, sl _ _, val _, val _])]) (as_ := [(true, [sl .v _, val _, val _, sl .v _, sl .v _, sl .v _, sl .v _, val _]), (true, [val _, val _, sl .v _, val _, val _])]) (by decide) J5 (by exact ⟨rfl, rfl, ⟨⟩⟩) (by exact (aI (by exact ⟨⟩) (aI (by exact ⟨⟩) tI))) (by exact (aI (aI rfl (ab.cons PV.to_none (ab.cons (PV.To.refl _) (ab.cons (PV.To.refl _) (ab.cons PV.to_none (ab.cons PV.to_none (ab.cons PV.to_none (ab.cons PV.to_none (ab.cons (PV.To.refl _) ab.nil))))))))) (aI (aI rfl (ab.cons (PV.To.refl _) (ab.cons (PV.To.refl _) (ab.cons PV.to_none (ab.cons (PV.To.refl _) (ab.cons (PV.To.refl _) ab.nil)))))) tI))) (by exact (LC (e := (bb (bc c most) k).e) (u := (dy (bN (bb (bc c most) k).c).2 (bb (bc c most) k).e.Store).1) (by omega) (by omega))) (by kernel_rfl) (by kernel_rfl) fun uss hU0 => ?_
 obtain ⟨us0, r0, rfl, hl0, hR0, hU1⟩ := ct.cons hU0
 obtain ⟨u6_0_0, u6_0_1, u6_0_2, u6_0_3, u6_0_4, u6_0_5, u6_0_6, u6_0_7, rfl⟩ := nA hl0
 obtain rfl := dc hR0 (j := 1) rfl rfl
 obtain rfl := dc hR0 (j := 2) rfl rfl
 obtain rfl := dc hR0 (j := 7) rfl rfl
 obtain ⟨us1, r1, rfl, hl1, hR1, hU2⟩ := ct.cons hU1
 obtain ⟨u6_1_0, rfl⟩ := i9 hl1
 exact EV
 have hk2 : ¬ (bN (bb (bc c most) k).c).1 = 2 := hbd
 refine zss ?_
 refine sc (fun hbe => ?_) (fun hbe => ?_)
 have hk3 : (bN (bb (bc c most) k).c).1 = 3 := hbe
 have hxn := LN (x := (bb (bc c most) k)) hk0 hk2 hk3
 refine Hb ?_
 refine FH ?_
 refine jy (G := 2000) (qs := [(true, [sl _ _, val _, val _, sl _ _, sl _ _, sl _ _, sl _ _, val _]), (false, [val _])]) (as_ := [(true, [sl .v _, val _, val _, sl .v _, sl .v _, sl .v _, sl .v _, val _]), (false, [val _])]) (by decide) J4 (by exact ⟨rfl, rfl, ⟨⟩⟩) (by exact (aI (by exact ⟨⟩) (aI (by exact ⟨⟩) tI))) (by exact (aI (aI rfl (ab.cons PV.to_none (ab.cons (PV.To.refl _) (ab.cons (PV.To.refl _) (ab.cons PV.to_none (ab.cons PV.to_none (ab.cons PV.to_none (ab.cons PV.to_none (ab.cons (PV.To.refl _) ab.nil))))))))) (aI (aI rfl (ab.cons (PV.To.refl _) ab.nil)) tI))) (by exact (Lz (e := (bb (bc c most) k).e) (id := (iY (bb (bc c most) k).c).1) (by omega))) (by kernel_rfl) (by kernel_rfl) fun uss hU0 => ?_
 obtain ⟨us0, r0, rfl, hl0, hR0, hU1⟩ := ct.cons hU0
 obtain ⟨u8_0_0, u8_0_1, u8_0_2, u8_0_3, u8_0_4, u8_0_5, u8_0_6, u8_0_7, rfl⟩ := nA hl0
 obtain rfl := dc hR0 (j := 1) rfl rfl
 obtain rfl := dc hR0 (j := 2) rfl rfl
 obtain rfl := dc hR0 (j := 7) rfl rfl
 obtain ⟨us1, r1, rfl, hl1, hR1, hU2⟩ := ct.cons hU1
 obtain ⟨u8_1_0, rfl⟩ := i9 hl1
 exact EW
 exact EX
 have hk00 := hbb
 refine sG [0, 1, 4, 5, 6, 7, 8, 24, 5000] [0, 4, 5, 8] ?_
 refine mb ?_
 refine sc (fun hbc => ?_) (fun hbc => ?_)
 have hk0 : (bN (bb (bc c most) k).c).1 = 0 ∨ (bN (bb (bc c most) k).c).1 = 1 := by first | assumption | exact .inr hbc | exact .inr (by simpa using hbc)
 have hxn := Av (x := (bb (bc c most) k)) hk0
 refine G9 ?_
 refine qt ?_
 refine dX 0 ?_ (x := (eG (.inl rfl) (by decide) (by exact Cp.ptr)))
 refine E6 ?_
 refine dX 0 ?_ (x := (eG (.inl rfl) (by decide) (by exact Cp.ptr)))
 refine Fc ?_
 refine jy (G := 2000) (qs := [(true, [sl _ _, val _, val _, sl _ _, sl _ _, sl _ _, sl _ _, val _]), (true, [val _, val _, sl _ _, sl _ _]), (false, [val _])]) (as_ := [(true, [sl .v _, val _, val _, sl .v _, sl .v _, sl .v _, sl .v _, val _]), (true, [val _, val _, sl .v _, sl .v _]), (false, [val _])]) (by decide) J3 (by exact ⟨rfl, rfl, rfl, ⟨⟩⟩) (by exact (aI (by exact ⟨⟩) (aI (by exact ⟨⟩) (aI (by exact ⟨⟩) tI)))) (by exact (aI (aI rfl (ab.cons PV.to_none (ab.cons (PV.To.refl _) (ab.cons (PV.To.refl _) (ab.cons PV.to_none (ab.cons PV.to_none (ab.cons PV.to_none (ab.cons PV.to_none (ab.cons (PV.To.refl _) ab.nil))))))))) (aI (aI rfl (ab.cons (PV.To.refl _) (ab.cons (PV.To.refl _) (ab.cons PV.to_none (ab.cons PV.to_none ab.nil))))) (aI (aI rfl (ab.cons (PV.To.refl _) ab.nil)) tI)))) (by exact (Ly (e := (bb (bc c most) k).e) (q := (lV (bb (bc c most) k).c).1) (l := (n7 (bb (bc c most) k).c).1) (by omega) (by unfold lV; omega))) (by kernel_rfl) (by kernel_rfl) fun uss hU0 => ?_
 obtain ⟨us0, r0, rfl, hl0, hR0, hU1⟩ := ct.cons hU0
 obtain ⟨u10_0_0, u10_0_1, u10_0_2, u10_0_3, u10_0_4, u10_0_5, u10_0_6, u10_0_7, rfl⟩ := nA hl0
 obtain rfl := dc hR0 (j := 1) rfl rfl
 obtain rfl := dc hR0 (j := 2) rfl rfl
 obtain rfl := dc hR0 (j := 7) rfl rfl
 obtain ⟨us1, r1, rfl, hl1, hR1, hU2⟩ := ct.cons hU1
 obtain ⟨u10_1_0, rfl⟩ := i9 hl1
 exact EU
 have hk0 : ¬ ((bN (bb (bc c most) k).c).1 = 0 ∨ (bN (bb (bc c most) k).c).1 = 1) := by intro hc_; rcases hc_ with hc_ | hc_ <;> first | exact hk00 hc_ | exact hbc hc_ | (simp_all; done)
 refine zss ?_
 refine sc (fun hbd => ?_) (fun hbd => ?_)
 have hk2 : (bN (bb (bc c most) k).c).1 = 2 := hbd
 have hxn := LM (x := (bb (bc c most) k)) hk0 hk2
 refine Ha ?_
 refine qt ?_
 refine dX 0 ?_ (x := (ss (by decide) ee))
 refine E9 ?_
 refine jy (G := 2000) (qs := [(true, [sl _ _, val _, val _, sl _ _, sl _ _, sl _ _, sl _ _, val _]), (true, [val _, val _, sl _ _, val _, val _])]) (as_ := [(true, [sl .v _, val _, val _, sl .v _, sl .v _, sl .v _, sl .v _, val _]), (true, [val _, val _, sl .v _, val _, val _])]) (by decide) J5 (by exact ⟨rfl, rfl, ⟨⟩⟩) (by exact (aI (by exact ⟨⟩) (aI (by exact ⟨⟩) tI))) (by exact (aI (aI rfl (ab.cons PV.to_none (ab.cons (PV.To.refl _) (ab.cons (PV.To.refl _) (ab.cons PV.to_none (ab.cons PV.to_none (ab.cons PV.to_none (ab.cons PV.to_none (ab.cons (PV.To.refl _) ab.nil))))))))) (aI (aI rfl (ab.cons (PV.To.refl _) (ab.cons (PV.To.refl _) (ab.cons PV.to_none (ab.cons (PV.To.refl _) (ab.cons (PV.To.refl _) ab.nil)))))) tI))) (by exact (LC (e := (bb (bc c most) k).e) (u := (dy (bN (bb (bc c most) k).c).2 (bb (bc c most) k).e.Store).1) (by omega) (by omega))) (by kernel_rfl) (by kernel_rfl) fun uss hU0 => ?_
 obtain ⟨us0, r0, rfl, hl0, hR0, hU1⟩ := ct.cons hU0
 obtain ⟨u12_0_0, u12_0_1, u12_0_2, u12_0_3, u12_0_4, u12_0_5, u12_0_6, u12_0_7, rfl⟩ := nA hl0
 obtain rfl := dc hR0 (j := 1) rfl rfl
 obtain rfl := dc hR0 (j := 2) rfl rfl
 obtain rfl := dc hR0 (j := 7) rfl rfl
 obtain ⟨us1, r1, rfl, hl1, hR1, hU2⟩ := ct.cons hU1
 obtain ⟨u12_1_0, rfl⟩ := i9 hl1
 exact EV
 have hk2 : ¬ (bN (bb (bc c most) k).c).1 = 2 := hbd
 refine zss ?_
 refine sc (fun hbe => ?_) (fun hbe => ?_)
 have hk3 : (bN (bb (bc c most) k).c).1 = 3 := hbe
 have hxn := LN (x := (bb (bc c most) k)) hk0 hk2 hk3
 refine Hb ?_
 refine FH ?_
 refine jy (G := 2000) (qs := [(true, [sl _ _, val _, val _, sl _ _, sl _ _, sl _ _, sl _ _, val _]), (false, [val _])]) (as_ := [(true, [sl .v _, val _, val _, sl .v _, sl .v _, sl .v _, sl .v _, val _]), (false, [val _])]) (by decide) J4 (by exact ⟨rfl, rfl, ⟨⟩⟩) (by exact (aI (by exact ⟨⟩) (aI (by exact ⟨⟩) tI))) (by exact (aI (aI rfl (ab.cons PV.to_none (ab.cons (PV.To.refl _) (ab.cons (PV.To.refl _) (ab.cons PV.to_none (ab.cons PV.to_none (ab.cons PV.to_none (ab.cons PV.to_none (ab.cons (PV.To.refl _) ab.nil))))))))) (aI (aI rfl (ab.cons (PV.To.refl _) ab.nil)) tI))) (by exact (Lz (e := (bb (bc c most) k).e) (id := (iY (bb (bc c most) k).c).1) (by omega))) (by kernel_rfl) (by kernel_rfl) fun uss hU0 => ?_
 obtain ⟨us0, r0, rfl, hl0, hR0, hU1⟩ := ct.cons hU0
 obtain ⟨u14_0_0, u14_0_1, u14_0_2, u14_0_3, u14_0_4, u14_0_5, u14_0_6, u14_0_7, rfl⟩ := nA hl0
 obtain rfl := dc hR0 (j := 1) rfl rfl
 obtain rfl := dc hR0 (j := 2) rfl rfl
 obtain rfl := dc hR0 (j := 7) rfl rfl
 obtain ⟨us1, r1, rfl, hl1, hR1, hU2⟩ := ct.cons hU1
 obtain ⟨u14_1_0, rfl⟩ := i9 hl1
 exact EW
 exact EX
 have hend : k = j3 c most := by omega
 refine et ?_
 refine sO [(0, _), (1, _), (4, _), (5, _), (6, _), (7, _), (5000, _)] [(0, (192, [sl o _, val _, val _])), (4, (32, [sl _ _, val _, val _, sl _ _, sl _ _, sl _ _, sl _ _, val _])), (5, (32, [sl _ _, val _, val _, sl _ _, sl _ _, sl _ _, sl _ _, val _]))] ?_
 refine aM ?_
 refine lb ?_
 refine bY ?_
 exact ⟨(by unfold cB; rw [← hend]; exact rfl), rfl, (Exists.intro 4 (Exists.intro _ (aI (by exact rfl) (aI (by refine cW ?_; unfold cB; rw [← hend]; exact rfl) (aI a7 (aI (fun h => nomatch h) tI))))))⟩
theorem LY {c : aC}  : fE Tryz.prog 70 192 (cO .v c) (cO .v (aK c).2) [] (av [(true, [sl (.own 139 1) ((aK c).1.Store.Segments.map (ax (.own 184 4) (.own 3 1))), val (vI (aK c).1.Store.Now), val (vI (aK c).1.Cursor), sl (.own 3 1) ((aK c).1.Order.map ai), sl (.own 108 10) ((aK c).1.Active.map (aG (.own 178 3) (.own 3 1) (.own 3 1) (.own 54 2) (.own 3 1))), sl (.own 63 7) ((aK c).1.Done.map (aP (.own 178 3) (.own 3 1) (.own 54 2) (.own 3 1))), sl (.own 70 5) ((aK c).1.Ledger.map (aR (.own 3 1) (.own 3 1) (.own 3 1))), val (vI (aK c).1.Steps)])]) := by
 refine gG (rs := [(true, [sl (.own 139 1) ((aK c).1.Store.Segments.map (ax (.own 184 4) (.own 3 1))), val (vI (aK c).1.Store.Now), val (vI (aK c).1.Cursor), sl (.own 3 1) ((aK c).1.Order.map ai), sl (.own 108 10) ((aK c).1.Active.map (aG (.own 178 3) (.own 3 1) (.own 3 1) (.own 54 2) (.own 3 1))), sl (.own 63 7) ((aK c).1.Done.map (aP (.own 178 3) (.own 3 1) (.own 54 2) (.own 3 1))), sl (.own 70 5) ((aK c).1.Ledger.map (aR (.own 3 1) (.own 3 1) (.own 3 1))), val (vI (aK c).1.Steps)])]) Tryz.func70 rfl (nl rfl) (nl rfl) ?_
 intro g_ h0 w0 Fz0
 have hew := LO c
 refine qS ?_
 refine sT [0, 2, 5000] [0, 2] ?_
 refine rA ?_ (x := cM Cp.ptr)
 refine rA ?_ (x := c9 (bx := 0) (qs := [(false, [val _])]) (as_ := [(false, [val _])]) (by decide) Pd rfl (by exact (aI (aY rfl) tI)) (by exact (aI (aI rfl (ab.cons (PV.To.refl _) ab.nil)) tI)) (by exact (ae.cons (bor_sl _) (ae.cons (bor_val _) (ae.cons (bor_val _) ae.nil)))) (by exact (cI (ae.cons (bor_val _) ae.nil) cr)) (by exact (Ud (most := 14) (fun es => bor_sl es) (by decide))))
 refine jH ?_
 refine sO [(0, _), (2, _), (3, _), (5000, _)] [(0, _), (2, _), (3, (32, [sl _ _, val _, val _, sl _ _, sl _ _, sl _ _, sl _ _, val _]))] ?_
 refine jE ?_
 refine rA ?_ (x := c9 (bx := 0) (qs := [(false, [val _])]) (as_ := [(false, [val _])]) (by decide) lM rfl (by exact (aI (aY rfl) tI)) (by exact (aI (aI rfl (ab.cons (PV.To.refl _) ab.nil)) tI)) (by exact (ae.cons (bor_sl _) (ae.cons (bor_val _) (ae.cons (bor_val _) ae.nil)))) (by exact (cI (ae.cons (bor_val _) ae.nil) cr)) (by exact (lU (fun es => bor_sl es) (by omega))))
 refine iE ?_
 refine t5 ?_
 refine sc (fun hba => ?_) (fun hba => ?_)
 have hr := TQ (c := c) hba
 refine yf ?_
 refine rA ?_ (x := bd (qs := [(false, [val _]), (false, [val _])]) (by decide) a3 ce (by decide) rfl rfl rfl rfl rfl (by exact nl rfl) (by exact (aI (aY rfl) (aI (aY rfl) tI))) rfl)
 refine rA ?_ (x := c9 (bx := 0) (qs := [(false, [sl _ _])]) (as_ := [(false, [sl .v _])]) (by decide) pt rfl (by exact (aI (by exact ⟨⟩) tI)) (by exact (aI (aI rfl (ab.cons PV.to_none ab.nil)) tI)) (by exact (ae.cons (bor_sl _) (ae.cons (bor_val _) (ae.cons (bor_val _) ae.nil)))) (by exact (cI (ae.cons (bor_sl _) ae.nil) cr)) (by exact (pM (l := [-1, 8]) (fun es => bor_sl es) (by decide) (by decide))))
 refine rA ?_ (x := lF gR)
 exact EZ
 have h0_ := hba
 refine t5 ?_
 refine sc (fun hbb => ?_) (fun hbb => ?_)
 have hr := TR (c := c) h0_ hbb
 refine yf ?_
 refine rA ?_ (x := bd (qs := [(false, [val _]), (false, [val _]), (false, [val _]), (false, [val _])]) (by decide) a3 ce (by decide) rfl rfl rfl rfl rfl (by exact nl rfl) (by exact (aI (aY rfl) (aI (aY rfl) (aI (aY rfl) (aI (aY rfl) tI))))) rfl)
 refine rA ?_ (x := c9 (bx := 0) (qs := [(false, [sl _ _])]) (as_ := [(false, [sl .v _])]) (by decide) pt rfl (by exact (aI (by exact ⟨⟩) tI)) (by exact (aI (aI rfl (ab.cons PV.to_none ab.nil)) tI)) (by exact (ae.cons (bor_sl _) (ae.cons (bor_val _) (ae.cons (bor_val _) ae.nil)))) (by exact (cI (ae.cons (bor_sl _) ae.nil) cr)) (by exact (pM (l := [-1, 99999, 100000, 100001]) (fun es => bor_sl es) (by decide) (by decide))))
 refine rA ?_ (x := lF io)
 exact EZ
 have h1_ := hbb
 refine t5 ?_
 refine sc (fun hbc => ?_) (fun hbc => ?_)
 have hr := TS (c := c) h0_ h1_ hbc
 refine sG [0, 2, 3, 7, 5000] [0, 2, 3] ?_
 refine rA ?_ (x := lF ee)
 refine rA ?_ (x := lF fc)
 refine rA ?_ (x := aQ (ag := false) (vs := [val _]) aq (aY rfl) (by exact rfl) (by exact nl rfl))
 exact xe
 have h2_ := hbc
 refine t5 ?_
 refine sc (fun hbd => ?_) (fun hbd => ?_)
 have hr := TT (c := c) h0_ h1_ h2_ hbd
 refine yf ?_
 refine rA ?_ (x := c9 (bx := 0) (qs := []) (as_ := []) (by decide) Pe rfl (by exact ⟨⟩) (by exact ⟨⟩) (by exact (ae.cons (bor_sl _) (ae.cons (bor_val _) (ae.cons (bor_val _) ae.nil)))) (by exact cr) (by exact Uc))
 refine rA ?_ (x := lF mn)
 refine rA ?_ (x := aQ (ag := false) (vs := [sl _ _]) aZ (by exact ⟨⟩) (by exact rfl) (by exact nl rfl))
 exact xe
 have hr := TU (c := c) h0_ h1_ h2_ hbd
 refine aN ?_
 refine sS [0, 2, 3, 7, 5000] [0, 2, 3] ?_
 exact EY
theorem Ue {code : List Int}  (hb : code.length ≤ 9223372036854775807) (hb2 : code.length ≤ 4611686018427387904) : aw Tryz.prog 15 [(false, [sl .v (code.map kw)])] (av [(true, [sl (.own 139 1) ((aK (ba code hb)).1.Store.Segments.map (ax (.own 184 4) (.own 3 1))), val (vI (aK (ba code hb)).1.Store.Now), val (vI (aK (ba code hb)).1.Cursor), sl (.own 3 1) ((aK (ba code hb)).1.Order.map ai), sl (.own 108 10) ((aK (ba code hb)).1.Active.map (aG (.own 178 3) (.own 3 1) (.own 3 1) (.own 54 2) (.own 3 1))), sl (.own 63 7) ((aK (ba code hb)).1.Done.map (aP (.own 178 3) (.own 3 1) (.own 54 2) (.own 3 1))), sl (.own 70 5) ((aK (ba code hb)).1.Ledger.map (aR (.own 3 1) (.own 3 1) (.own 3 1))), val (vI (aK (ba code hb)).1.Steps)])]) := by
 refine sF Tryz.func15 fun h0 w0 Fz0 => ?_
 refine sj 0 fun hl0 => ?_
 have hew := vJ (ba code hb)
 refine qS ?_
 refine sT [0, 2] [2] ?_
 refine Gb ?_
 refine rA ?_ (x := c9 (bx := 4) (qs := []) (as_ := []) (by decide) J1 rfl (by exact ⟨⟩) (by exact ⟨⟩) (by exact (ae.cons (bor_sl _) (ae.cons (bor_val _) (ae.cons (bor_val _) ae.nil)))) (by exact cr) (by exact LY))
 exact DB
theorem Uf {code : List Int}  (hb : code.length ≤ 9223372036854775807) (hb2 : code.length ≤ 4611686018427387904) : aw Tryz.prog 52 [(false, [sl .v (code.map kw)])] (av [(true, [sl (.own 139 1) ((aK (ba code hb)).1.Store.Segments.map (ax (.own 184 4) (.own 3 1))), val (vI (aK (ba code hb)).1.Store.Now), val (vI (aK (ba code hb)).1.Cursor), sl (.own 3 1) ((aK (ba code hb)).1.Order.map ai), sl (.own 108 10) ((aK (ba code hb)).1.Active.map (aG (.own 178 3) (.own 3 1) (.own 3 1) (.own 54 2) (.own 3 1))), sl (.own 63 7) ((aK (ba code hb)).1.Done.map (aP (.own 178 3) (.own 3 1) (.own 54 2) (.own 3 1))), sl (.own 70 5) ((aK (ba code hb)).1.Ledger.map (aR (.own 3 1) (.own 3 1) (.own 3 1))), val (vI (aK (ba code hb)).1.Steps)]), (false, [val (vI (aU (aK (ba code hb)).2 [-1, 0, 1, 5, 20]).1)])]) := by
 refine sF Tryz.func52 fun h0 w0 Fz0 => ?_
 refine sj 0 fun hl0 => ?_
 have hew := vJ (ba code hb)
 refine qS ?_
 refine rK ?_
 refine sT [0, 2, 3] [2] ?_
 refine Gb ?_
 refine rA ?_ (x := cA Cp.ptr)
 refine aJ ?_
 refine sO [(0, _), (2, _), (3, _), (4, _)] [(2, _), (7, (192, [sl _ _, val _, val _]))] ?_
 refine jE ?_
 refine rA ?_ (x := c9 (bx := 7) (qs := []) (as_ := []) (by decide) J1 rfl (by exact ⟨⟩) (by exact ⟨⟩) (by exact (ae.cons (bor_sl _) (ae.cons (bor_val _) (ae.cons (bor_val _) ae.nil)))) (by exact cr) (by exact LY))
 refine iI ?_
 refine aJ ?_
 refine sO [(0, _), (2, _), (3, _), (4, _), (5, _)] [(2, _), (5, (32, [sl _ _, val _, val _, sl _ _, sl _ _, sl _ _, sl _ _, val _])), (7, _)] ?_
 refine b9 bP ?_
 refine dA 0 ?_ (x := b8 (ms := [sl _ _, val _, val _, sl _ _, sl _ _, sl _ _, sl _ _, val _]) (qs := [sl .v _, val _, val _, sl .v _, sl .v _, sl .v _, sl .v _, val _]) (by decide) a7 (fun h => nomatch h) (by exact nl rfl) (by exact rfl) (by exact (ab.cons PV.to_none (ab.cons (PV.To.refl _) (ab.cons (PV.To.refl _) (ab.cons PV.to_none (ab.cons PV.to_none (ab.cons PV.to_none (ab.cons PV.to_none (ab.cons (PV.To.refl _) ab.nil))))))))) (by exact lq))
 refine dA 0 ?_ (x := cM Cp.ptr)
 refine dA 0 ?_ (x := bd (qs := [(false, [val _]), (false, [val _]), (false, [val _]), (false, [val _]), (false, [val _])]) (by decide) a3 ce (by decide) rfl rfl rfl rfl rfl (by exact nl rfl) (by exact (aI (aY rfl) (aI (aY rfl) (aI (aY rfl) (aI (aY rfl) (aI (aY rfl) tI)))))) rfl)
 refine dA 6 ?_ (x := c9 (bx := 7) (qs := [(false, [sl _ _])]) (as_ := [(false, [sl .v _])]) (by decide) pt rfl (by exact (aI (by exact ⟨⟩) tI)) (by exact (aI (aI rfl (ab.cons PV.to_none ab.nil)) tI)) (by exact (ae.cons (bor_sl _) (ae.cons (bor_val _) (ae.cons (bor_val _) ae.nil)))) (by exact (cI (ae.cons (bor_sl _) ae.nil) cr)) (by exact (pM (l := [-1, 0, 1, 5, 20]) (fun es => bor_sl es) (by decide) (by decide))))
 refine dA 15 ?_ (x := aQ (ag := true) (vs := [sl _ _, val _, val _, sl _ _, sl _ _, sl _ _, sl _ _, val _]) a7 (by exact ⟨⟩) (by exact rfl) (by exact nl rfl))
 refine dA 31 ?_ (x := sA)
 exact xc
theorem Ug {code : List Int}  (hb : code.length ≤ 9223372036854775807) (hb2 : code.length ≤ 4611686018427387904) : aw Tryz.prog 8 [(false, [sl .v (code.map kw)])] (av [(true, [sl (.own 139 1) ((aK (ba code hb)).1.Store.Segments.map (ax (.own 184 4) (.own 3 1))), val (vI (aK (ba code hb)).1.Store.Now), val (vI (aK (ba code hb)).1.Cursor), sl (.own 3 1) ((aK (ba code hb)).1.Order.map ai), sl (.own 108 10) ((aK (ba code hb)).1.Active.map (aG (.own 178 3) (.own 3 1) (.own 3 1) (.own 54 2) (.own 3 1))), sl (.own 63 7) ((aK (ba code hb)).1.Done.map (aP (.own 178 3) (.own 3 1) (.own 54 2) (.own 3 1))), sl (.own 70 5) ((aK (ba code hb)).1.Ledger.map (aR (.own 3 1) (.own 3 1) (.own 3 1))), val (vI (aK (ba code hb)).1.Steps)]), (false, [val (vI (aU (aK (ba code hb)).2 [-1, 0, 1, 5, 20]).1)])]) := by
 refine sF Tryz.func8 fun h0 w0 Fz0 => ?_
 refine sj 0 fun hl0 => ?_
 have hew := vJ (ba code hb)
 refine qS ?_
 refine rK ?_
 refine sT [0, 2, 3] [2] ?_
 refine rA ?_ (x := vM false [sl .v _])
 refine rA ?_ (x := cL [(false, [sl _ _])] [(false, [sl .v _])] PS (hs := by exact (Uf (by omega) (by omega))))
 refine ro ?_
 refine iI ?_
 refine ig ?_
 refine sO [(0, _), (2, _), (3, _), (4, _), (5, _)] [(2, _), (4, (32, [sl _ _, val _, val _, sl _ _, sl _ _, sl _ _, sl _ _, val _]))] ?_
 refine xh ?_
 refine rM ?_
 refine rA ?_ (x := aQ (ag := true) (vs := [sl _ _, val _, val _, sl _ _, sl _ _, sl _ _, sl _ _, val _]) a7 (by exact ⟨⟩) (by exact rfl) (by exact nl rfl))
 refine rS ?_
 exact xc
end Go.Proofs.YtmekkgdboplbjaaGreat
