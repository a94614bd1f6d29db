/- What functions of the program compute. No condition. -/
import Derived.Test.YtmekkgdboplbjaaGreatDoorCA1
import Derived.Test.YtmekkgdboplbjaaGreatDoorCE1
import Derived.Test.YtmekkgdboplbjaaGreatDoorCN1
import Derived.Test.YtmekkgdboplbjaaGreatDoorCO1
set_option linter.all false
namespace Go.Proofs.YtmekkgdboplbjaaGreatDoor
open Go Go.RowKit M PV Tryz
set_option maxRecDepth 10000
attribute [local irreducible] PV.Lcl PV.LclR RV.Lcl
set_option maxHeartbeats 8000000
attribute [local irreducible] ak gn
def Yn {c : au}  : fa prog 153 176 (ce .v c) (ce .v (ml c).2) [] (aF [(false, [sl ae ((ml c).1.map an)])]) := by
 refine fO (rs := [(false, [sl ae ((ml c).1.map an)])]) func153 rfl (nl rfl) (nl rfl) ?_
 intro g_ h0 w0 Fz0
 refine uZ (fun L => [(0, RV.ptr 0 0), (5000, RV.phi 0 g_)]) (fun L => [(0, (176, [sl (.lo L) (c.b.map jL), val (vI (c.i : Int)), val (vI c.h)]))]) (fun L => by exact (it.cons hO.ptr (it.cons hO.phi tI))) (fun L => by exact (kY.cons (aj.cons (bn (fun _ => nl rfl) (fun _ => (aj.cons aC aj.nil))) (aj.cons aC (aj.cons aC aj.nil))) (ab.cons (bor_lo _ _) (ab.cons (bor_val _) (ab.cons (bor_val _) ab.nil))) tI)) fun Bl w0 Fz0 => ?_
 have hb11 := dh c 6
 have hb12 := di c (n := 6) (by decide)
 have h6_ : mJ.length = 6 := rfl
 have hob : (ow c).1 = (ak c 6).1 := rfl
 have hk6 : (ow c).1.toNat < mJ.length := by unfold ow; omega
 have hol := CC c
 have hv0 : 0 < (ne c).length := by omega
 have hol3 : (mJ.getD (ow c).1.toNat []).length = 3 := CC c
 refine pO ?_
 refine ba ?_
 refine sO [(0, _), (2, _), (5000, _)] [(0, (176, [sl (.lo _) _, val _, val _]))] ?_
 refine bi ?_
 refine rA ?_ (x := bm (qs := []) (by decide) aW bX (by decide) rfl rfl rfl rfl rfl (by exact nl rfl) (by exact tI) rfl)
 refine rA ?_ (x := cL [] [] SK (hs := by exact XH))
 refine mw ?_
 refine rA ?_ (x := aU (k := (ow c).1.toNat) (by decide) Lo (by exact tI) (by omega) (by exact aV hk6 (by rw [cU (d := ([] : List Int)) hk6])) (by exact rfl))
 refine vu ?_
 refine jJ ?_
 refine sS [0, 2, 3, 5000] [0] ?_
 refine rA ?_ (x := cM Cp.ptr)
 refine rA ?_ (x := bR (bx := 0) (qs := [(false, [val _])]) (as_ := [(false, [val _])]) (by decide) xe rfl (by exact (aI (aJ rfl) tI)) (by exact (aI (aI rfl (aq ao.nil)) tI)) (by exact (ab.cons (bor_lo _ _) (ab.cons (bor_val _) (ab.cons (bor_val _) ab.nil)))) (by exact (bV (ab.cons (bor_val _) ab.nil) bH)) (by exact (xp (fun es => bor_lo _ es) (by omega))))
 refine sc (fun hba => ?_) (fun hba => ?_)
 have hr := XW (c := c) hba
 refine sP [0, 2, 3, 5000] [0] ?_
 refine DD (s := 3) (D := 900) (G := 2900) (E := 3) (e := 1) (L := Bl) (es := ((ne c)).map an) (by exact rfl) (iq hv0) (by exact rfl) (by exact rfl) rfl (by exact rfl) (fun x hx => hx) (by exact lq) (by exact lq) (ar.map fun x => (ar.cons lcl_val ar.nil)) fun uu900 cp900 jk900 hlD900 hcp900 hjk900 => ?_
 rw [am] at hlD900 hcp900 hjk900
 refine cK (d := 900) (by exact rfl) (hI (k := 0) hv0) ?_
 have hA900 := hJ (f := an) (e := 1) (xs := (ne c)) (k := 0) (fun _ => rfl) (Nat.le_of_lt hv0)
 refine sO [(0, _), (2, _), (3, _), (2900, _), (5000, _)] [(0, _), (900, (3, _ ++ ([val _] ++ _)))] ?_
 refine bi ?_
 refine rA ?_ (x := vM false [val _])
 refine zo ?_
 refine rA ?_ (x := bR (bx := 0) (qs := [(false, [sl _ _])]) (as_ := [(false, [sl .v _])]) (by decide) jh rfl (by exact (aI (by exact tI) tI)) (by exact (aI (aI rfl (aA ao.nil)) tI)) (by exact (ab.cons (bor_lo _ _) (ab.cons (bor_val _) (ab.cons (bor_val _) ab.nil)))) (by exact (bV (ab.cons (bor_sl _) ab.nil) bH)) (by exact (jm (l := [-1, 0, 3]) (fun es => bor_lo _ es) (by decide) (by decide))))
 refine rA ?_ (x := gj (k := 0) (G := 2900) (by decide) aW (aJ rfl) (by rfl) (by first | (rw [am]; exact hv0) | exact hv0))
 refine rA ?_ (x := kX (o := 0) (ag := false) (vs := [val _]) (by omega) aw (by exact tI) (by exact rfl) (by exact nl rfl))
 refine cK (d := 900) (by exact rfl) (kq ((aX (mj c).2 [-1, 0, 3]).1) hv0 (by exact rfl)) ?_
 refine DE (s := 3) (D := 900) (G := 2900) (e := 1) (es := (((ne c)).set 0 ((aX (mj c).2 [-1, 0, 3]).1)).map an) (by exact rfl) (by exact rfl) (by exact rfl) rfl (by decide) (by rw [am, List.length_set, am]) (by intro c hc; obtain ⟨y, _, rfl⟩ := List.mem_map.1 hc; exact rfl) (by rw [am]; exact hjk900) ?_
 exact GP
 have hr := XX (c := c) hba
 refine bc ?_
 exact GP
def Yo {o : Fl} {c : au} (hbo : ∀ es, (sl o es).Bor) {most : Int}  (hm : 0 < most ∧ most ≤ 100) : fa prog 151 176 (ce o c) (ce o (dK c most).c) [(false, [val (vI most)])] (aF [(true, [sl bQ ((dK c most).e.Store.ZE.map (aO be ae)), val (vI (dK c most).e.Store.Now), val (vI (dK c most).e.ZJ), sl ae ((dK c most).e.Order.map an), sl dr ((dK c most).e.ZF.map (bq aP ae ae aR ae)), sl cQ ((dK c most).e.Done.map (bN aP ae aR ae)), sl cH ((dK c most).e.ZR.map (bF ae ae ae)), val (vI (dK c most).e.Steps)])]) := by
 refine fO (rs := [(true, [sl bQ ((dK c most).e.Store.ZE.map (aO be ae)), val (vI (dK c most).e.Store.Now), val (vI (dK c most).e.ZJ), sl ae ((dK c most).e.Order.map an), sl dr ((dK c most).e.ZF.map (bq aP ae ae aR ae)), sl cQ ((dK c most).e.Done.map (bN aP ae aR ae)), sl cH ((dK c most).e.ZR.map (bF ae ae ae)), val (vI (dK c most).e.Steps)])]) func151 rfl (nl rfl) (nl rfl) ?_
 intro g_ h0 w0 Fz0
 have hso0 := uq c
 have hn1 := Nn c hm.1
 have hm1 := dh (br c).c most
 have hm2 := di (br c).c (n := most) hm.1
 refine Ah ?_
 refine ba ?_
 refine sO [(0, _), (1, _), (4, _), (5000, _)] [(0, (176, [sl o _, val _, val _])), (4, (46, [sl _ _, val _, val _, sl _ _, sl _ _, sl _ _, sl _ _, val _]))] ?_
 refine lL ?_
 refine rA ?_ (x := bR (bx := 0) (qs := []) (as_ := []) (by decide) KS rfl (by exact tI) (by exact tI) (by exact (ab.cons (hbo _) (ab.cons (bor_val _) (ab.cons (bor_val _) ab.nil)))) (by exact bH) (by exact (Nf hbo)))
 refine rA ?_ (x := cL [(true, [sl _ _, val _])] [(true, [sl .v _, val _])] SH (hs := by exact (Xw (s := (br c).s) hso0)))
 refine rA ?_ (x := tM)
 refine Hw ?_
 refine oE ?_
 refine rS ?_
 refine dO ?_
 refine sO [(0, _), (1, _), (4, _), (5, _), (6, _), (5000, _)] [(0, _), (4, _), (5, (46, [sl _ _, val _, val _, sl _ _, sl _ _, sl _ _, sl _ _, val _]))] ?_
 refine lL ?_
 refine sW ?_
 refine rS ?_
 refine fM ?_
 refine sP [0, 1, 4, 5, 6, 7, 5000] [0, 4, 5] ?_
 refine sL [0, 1, 4, 5, 6, 5000] [4] (fun k : Nat => k ≤ nd c most) (fun k : Nat => [(7, RV.int ((nd c most : Int) - (k : Int)))]) (fun k : Nat => [(0, (176, ce o (bC (bD c most) k).c)), (5, (46, [sl bQ ((bC (bD c most) k).e.Store.ZE.map (aO be ae)), val (vI (bC (bD c most) k).e.Store.Now), val (vI (bC (bD c most) k).e.ZJ), sl ae ((bC (bD c most) k).e.Order.map an), sl dr ((bC (bD c most) k).e.ZF.map (bq aP ae ae aR ae)), sl cQ ((bC (bD c most) k).e.Done.map (bN aP ae aR ae)), sl cH ((bC (bD c most) k).e.ZR.map (bF ae ae ae)), val (vI (bC (bD c most) k).e.Steps)]))]) (fun k : Nat => nd c most - k) 0 (by omega) (by exact aI (by exact bA (by unfold nd; omega)) tI) (by exact aI (by exact rfl) (aI (by exact rfl) tI)) ?_
 rintro k hk
 have heb := No c most k (by omega)
 have hew := CB c most k
 have hso := (kf.1 heb.ok).so
 have hqw := AT (kS (bC (bD c most) k).c).2 (kS (bC (bD c most) k).c).1
 have huw := Ms (cg (bC (bD c most) k).c).2 (bC (bD c most) k).e.Store
 have hb31 := dh (cg (bC (bD c most) k).c).2 6
 have hb32 := di (cg (bC (bD c most) k).c).2 (n := 6) (by decide)
 refine ri ?_
 refine sc (fun hba => ?_) (fun hba => ?_)
 have hlt : k < nd c most := by omega
 refine er ?_
 refine HY ?_
 refine rA ?_ (x := dH (ms := [sl _ _, val _, val _, sl _ _, sl _ _, sl _ _, sl _ _, val _]) (qs := [sl .v _, val _, val _, sl .v _, sl .v _, sl .v _, sl .v _, val _]) (by decide) co (fun h => nomatch h) (by exact nl rfl) (by exact rfl) (by exact (aA (aq (aq (aA (aA (aA (aA (aq ao.nil))))))))) (by exact lq))
 refine oE ?_
 refine dO ?_
 refine sO [(0, _), (1, _), (4, _), (5, _), (6, _), (7, _), (8, _), (5000, _)] [(0, _), (4, _), (5, (46, [sl _ _, val _, val _, sl _ _, sl _ _, sl _ _, sl _ _, val _])), (8, (46, [sl _ _, val _, val _, sl _ _, sl _ _, sl _ _, sl _ _, val _]))] ?_
 refine bi ?_
 refine jG ?_
 refine fM ?_
 refine ba ?_
 refine tl ?_
 refine sc (fun hbb => ?_) (fun hbb => ?_)
 have hk0 : (cg (bC (bD c most) k).c).1 = 0 ∨ (cg (bC (bD c most) k).c).1 = 1 := .inl hbb
 have hxn := CA (x := (bC (bD c most) k)) hk0
 refine bc ?_
 refine sc (fun hbc => ?_) (fun hbc => ?_)
 have hk0 : (cg (bC (bD c most) k).c).1 = 0 ∨ (cg (bC (bD c most) k).c).1 = 1 := by first | assumption | exact .inr hbc | exact .inr (by simpa using hbc)
 have hxn := CA (x := (bC (bD c most) k)) hk0
 refine IJ ?_
 refine sV ?_
 refine dX 0 ?_ (x := (gY (.inl rfl) (by decide) (by exact Cp.ptr)))
 refine Hq ?_
 refine dX 0 ?_ (x := (gY (.inl rfl) (by decide) (by exact Cp.ptr)))
 refine Hs ?_
 refine oB (G := 2000) (qs := [(true, [sl _ _, val _, val _, sl _ _, sl _ _, sl _ _, sl _ _, val _]), (true, [val _, val _, sl _ _, sl _ _]), (false, [val _])]) (as_ := [(true, [sl .v _, val _, val _, sl .v _, sl .v _, sl .v _, sl .v _, val _]), (true, [val _, val _, sl .v _, sl .v _]), (false, [val _])]) (by decide) KY (by exact ⟨rfl, rfl, rfl, ⟨⟩⟩) (by exact (aI (by exact tI) (aI (by exact tI) (aI (by exact tI) tI)))) (by exact (aI (aI rfl (aA (aq (aq (aA (aA (aA (aA (aq ao.nil))))))))) (aI (aI rfl (aq (aq (aA (aA ao.nil))))) (aI (aI rfl (aq ao.nil)) tI)))) (by exact (Nh (e := (bC (bD c most) k).e) (q := (ov (bC (bD c most) k).c).1) (l := (qG (bC (bD c most) k).c).1) (by omega) (by unfold ov; omega))) (by kernel_rfl) (by kernel_rfl) fun uss hU0 => ?_
 obtain ⟨us0, r0, rfl, hl0, hR0, hU1⟩ := dY.cons hU0
 obtain ⟨u4_0_0, u4_0_1, u4_0_2, u4_0_3, u4_0_4, u4_0_5, u4_0_6, u4_0_7, rfl⟩ := rx hl0
 obtain rfl := eZ hR0 (j := 1) rfl rfl
 obtain rfl := eZ hR0 (j := 2) rfl rfl
 obtain rfl := eZ hR0 (j := 7) rfl rfl
 obtain ⟨us1, r1, rfl, hl1, hR1, hU2⟩ := dY.cons hU1
 obtain ⟨u4_1_0, rfl⟩ := nG hl1
 exact GR
 have hk0 : ¬ ((cg (bC (bD c most) k).c).1 = 0 ∨ (cg (bC (bD c most) k).c).1 = 1) := by intro hc_; rcases hc_ with hc_ | hc_ <;> first | exact hk00 hc_ | exact hbc hc_ | (simp_all; done)
 refine tl ?_
 refine sc (fun hbd => ?_) (fun hbd => ?_)
 have hk2 : (cg (bC (bD c most) k).c).1 = 2 := hbd
 have hxn := Nk (x := (bC (bD c most) k)) hk0 hk2
 refine IK ?_
 refine sV ?_
 refine dX 0 ?_ (x := (uG (by decide) fB))
 refine Hr ?_
 refine oB (G := 2000) (qs := [(true, [sl _ _, val _, val _, sl _ _, sl _ _, sl _ _, sl _ _, val _]), (true, [val _, val _, sl _ _, val _, val _])]) (as_ := [(true, [sl .v _, val _, val _, sl .v _, sl .v _, sl .v _, sl .v _, val _]), (true, [val _, val _, sl .v _, val _, val _])]) (by decide) KZ (by exact ⟨rfl, rfl, ⟨⟩⟩) (by exact (aI (by exact tI) (aI (by exact tI) tI))) (by exact (aI (aI rfl (aA (aq (aq (aA (aA (aA (aA (aq ao.nil))))))))) (aI (aI rfl (aq (aq (aA (aq (aq ao.nil)))))) tI))) (by exact (Nj (e := (bC (bD c most) k).e) (u := (eC (cg (bC (bD c most) k).c).2 (bC (bD c most) k).e.Store).1) (by omega) (by omega))) (by kernel_rfl) (by kernel_rfl) fun uss hU0 => ?_
 obtain ⟨us0, r0, rfl, hl0, hR0, hU1⟩ := dY.cons hU0
 obtain ⟨u6_0_0, u6_0_1, u6_0_2, u6_0_3, u6_0_4, u6_0_5, u6_0_6, u6_0_7, rfl⟩ := rx hl0
 obtain rfl := eZ hR0 (j := 1) rfl rfl
 obtain rfl := eZ hR0 (j := 2) rfl rfl
 obtain rfl := eZ hR0 (j := 7) rfl rfl
 obtain ⟨us1, r1, rfl, hl1, hR1, hU2⟩ := dY.cons hU1
 obtain ⟨u6_1_0, rfl⟩ := nG hl1
 exact GS
 have hk2 : ¬ (cg (bC (bD c most) k).c).1 = 2 := hbd
 refine tl ?_
 refine sc (fun hbe => ?_) (fun hbe => ?_)
 have hk3 : (cg (bC (bD c most) k).c).1 = 3 := hbe
 have hxn := Nl (x := (bC (bD c most) k)) hk0 hk2 hk3
 refine IL ?_
 refine HG ?_
 refine oB (G := 2000) (qs := [(true, [sl _ _, val _, val _, sl _ _, sl _ _, sl _ _, sl _ _, val _]), (false, [val _])]) (as_ := [(true, [sl .v _, val _, val _, sl .v _, sl .v _, sl .v _, sl .v _, val _]), (false, [val _])]) (by decide) La (by exact ⟨rfl, rfl, ⟨⟩⟩) (by exact (aI (by exact tI) (aI (by exact tI) tI))) (by exact (aI (aI rfl (aA (aq (aq (aA (aA (aA (aA (aq ao.nil))))))))) (aI (aI rfl (aq ao.nil)) tI))) (by exact (Ni (e := (bC (bD c most) k).e) (id := (kS (bC (bD c most) k).c).1) (by omega))) (by kernel_rfl) (by kernel_rfl) fun uss hU0 => ?_
 obtain ⟨us0, r0, rfl, hl0, hR0, hU1⟩ := dY.cons hU0
 obtain ⟨u8_0_0, u8_0_1, u8_0_2, u8_0_3, u8_0_4, u8_0_5, u8_0_6, u8_0_7, rfl⟩ := rx hl0
 obtain rfl := eZ hR0 (j := 1) rfl rfl
 obtain rfl := eZ hR0 (j := 2) rfl rfl
 obtain rfl := eZ hR0 (j := 7) rfl rfl
 obtain ⟨us1, r1, rfl, hl1, hR1, hU2⟩ := dY.cons hU1
 obtain ⟨u8_1_0, rfl⟩ := nG hl1
 exact GT
 exact GU
 have hk00 := hbb
 refine sG [0, 1, 4, 5, 6, 7, 8, 24, 5000] [0, 4, 5, 8] ?_
 refine lb ?_
 refine sc (fun hbc => ?_) (fun hbc => ?_)
 have hk0 : (cg (bC (bD c most) k).c).1 = 0 ∨ (cg (bC (bD c most) k).c).1 = 1 := by first | assumption | exact .inr hbc | exact .inr (by simpa using hbc)
 have hxn := CA (x := (bC (bD c most) k)) hk0
 refine IJ ?_
 refine sV ?_
 refine dX 0 ?_ (x := (gY (.inl rfl) (by decide) (by exact Cp.ptr)))
 refine Hq ?_
 refine dX 0 ?_ (x := (gY (.inl rfl) (by decide) (by exact Cp.ptr)))
 refine Hs ?_
 refine oB (G := 2000) (qs := [(true, [sl _ _, val _, val _, sl _ _, sl _ _, sl _ _, sl _ _, val _]), (true, [val _, val _, sl _ _, sl _ _]), (false, [val _])]) (as_ := [(true, [sl .v _, val _, val _, sl .v _, sl .v _, sl .v _, sl .v _, val _]), (true, [val _, val _, sl .v _, sl .v _]), (false, [val _])]) (by decide) KY (by exact ⟨rfl, rfl, rfl, ⟨⟩⟩) (by exact (aI (by exact tI) (aI (by exact tI) (aI (by exact tI) tI)))) (by exact (aI (aI rfl (aA (aq (aq (aA (aA (aA (aA (aq ao.nil))))))))) (aI (aI rfl (aq (aq (aA (aA ao.nil))))) (aI (aI rfl (aq ao.nil)) tI)))) (by exact (Nh (e := (bC (bD c most) k).e) (q := (ov (bC (bD c most) k).c).1) (l := (qG (bC (bD c most) k).c).1) (by omega) (by unfold ov; omega))) (by kernel_rfl) (by kernel_rfl) fun uss hU0 => ?_
 obtain ⟨us0, r0, rfl, hl0, hR0, hU1⟩ := dY.cons hU0
 obtain ⟨u10_0_0, u10_0_1, u10_0_2, u10_0_3, u10_0_4, u10_0_5, u10_0_6, u10_0_7, rfl⟩ := rx hl0
 obtain rfl := eZ hR0 (j := 1) rfl rfl
 obtain rfl := eZ hR0 (j := 2) rfl rfl
 obtain rfl := eZ hR0 (j := 7) rfl rfl
 obtain ⟨us1, r1, rfl, hl1, hR1, hU2⟩ := dY.cons hU1
 obtain ⟨u10_1_0, rfl⟩ := nG hl1
 exact GR
 have hk0 : ¬ ((cg (bC (bD c most) k).c).1 = 0 ∨ (cg (bC (bD c most) k).c).1 = 1) := by intro hc_; rcases hc_ with hc_ | hc_ <;> first | exact hk00 hc_ | exact hbc hc_ | (simp_all; done)
 refine tl ?_
 refine sc (fun hbd => ?_) (fun hbd => ?_)
 have hk2 : (cg (bC (bD c most) k).c).1 = 2 := hbd
 have hxn := Nk (x := (bC (bD c most) k)) hk0 hk2
 refine IK ?_
 refine sV ?_
 refine dX 0 ?_ (x := (uG (by decide) fB))
 refine Hr ?_
 refine oB (G := 2000) (qs := [(true, [sl _ _, val _, val _, sl _ _, sl _ _, sl _ _, sl _ _, val _]), (true, [val _, val _, sl _ _, val _, val _])]) (as_ := [(true, [sl .v _, val _, val _, sl .v _, sl .v _, sl .v _, sl .v _, val _]), (true, [val _, val _, sl .v _, val _, val _])]) (by decide) KZ (by exact ⟨rfl, rfl, ⟨⟩⟩) (by exact (aI (by exact tI) (aI (by exact tI) tI))) (by exact (aI (aI rfl (aA (aq (aq (aA (aA (aA (aA (aq ao.nil))))))))) (aI (aI rfl (aq (aq (aA (aq (aq ao.nil)))))) tI))) (by exact (Nj (e := (bC (bD c most) k).e) (u := (eC (cg (bC (bD c most) k).c).2 (bC (bD c most) k).e.Store).1) (by omega) (by omega))) (by kernel_rfl) (by kernel_rfl) fun uss hU0 => ?_
 obtain ⟨us0, r0, rfl, hl0, hR0, hU1⟩ := dY.cons hU0
 obtain ⟨u12_0_0, u12_0_1, u12_0_2, u12_0_3, u12_0_4, u12_0_5, u12_0_6, u12_0_7, rfl⟩ := rx hl0
 obtain rfl := eZ hR0 (j := 1) rfl rfl
 obtain rfl := eZ hR0 (j := 2) rfl rfl
 obtain rfl := eZ hR0 (j := 7) rfl rfl
 obtain ⟨us1, r1, rfl, hl1, hR1, hU2⟩ := dY.cons hU1
 obtain ⟨u12_1_0, rfl⟩ := nG hl1
 exact GS
 have hk2 : ¬ (cg (bC (bD c most) k).c).1 = 2 := hbd
 refine tl ?_
 refine sc (fun hbe => ?_) (fun hbe => ?_)
 have hk3 : (cg (bC (bD c most) k).c).1 = 3 := hbe
 have hxn := Nl (x := (bC (bD c most) k)) hk0 hk2 hk3
 refine IL ?_
 refine HG ?_
 refine oB (G := 2000) (qs := [(true, [sl _ _, val _, val _, sl _ _, sl _ _, sl _ _, sl _ _, val _]), (false, [val _])]) (as_ := [(true, [sl .v _, val _, val _, sl .v _, sl .v _, sl .v _, sl .v _, val _]), (false, [val _])]) (by decide) La (by exact ⟨rfl, rfl, ⟨⟩⟩) (by exact (aI (by exact tI) (aI (by exact tI) tI))) (by exact (aI (aI rfl (aA (aq (aq (aA (aA (aA (aA (aq ao.nil))))))))) (aI (aI rfl (aq ao.nil)) tI))) (by exact (Ni (e := (bC (bD c most) k).e) (id := (kS (bC (bD c most) k).c).1) (by omega))) (by kernel_rfl) (by kernel_rfl) fun uss hU0 => ?_
 obtain ⟨us0, r0, rfl, hl0, hR0, hU1⟩ := dY.cons hU0
 obtain ⟨u14_0_0, u14_0_1, u14_0_2, u14_0_3, u14_0_4, u14_0_5, u14_0_6, u14_0_7, rfl⟩ := rx hl0
 obtain rfl := eZ hR0 (j := 1) rfl rfl
 obtain rfl := eZ hR0 (j := 2) rfl rfl
 obtain rfl := eZ hR0 (j := 7) rfl rfl
 obtain ⟨us1, r1, rfl, hl1, hR1, hU2⟩ := dY.cons hU1
 obtain ⟨u14_1_0, rfl⟩ := nG hl1
 exact GT
 exact GU
 have hend : k = nd c most := by omega
 refine gM ?_
 refine HY ?_
 refine sU ?_
 refine dc ?_
 exact ⟨(by unfold dK; rw [← hend]; exact rfl), rfl, (bj 4 (bj _ (aI (by exact rfl) (aI (by refine dW ?_; unfold dK; rw [← hend]; exact rfl) (aI co (aI (fun h => nomatch h) tI))))))⟩
def Yp {c : au}  : fa prog 64 176 (ce .v c) (ce .v (cz c).2) [] (aF [(true, [sl bQ ((cz c).1.Store.ZE.map (aO be ae)), val (vI (cz c).1.Store.Now), val (vI (cz c).1.ZJ), sl ae ((cz c).1.Order.map an), sl dr ((cz c).1.ZF.map (bq aP ae ae aR ae)), sl cQ ((cz c).1.Done.map (bN aP ae aR ae)), sl cH ((cz c).1.ZR.map (bF ae ae ae)), val (vI (cz c).1.Steps)])]) := by
 refine fO (rs := [(true, [sl bQ ((cz c).1.Store.ZE.map (aO be ae)), val (vI (cz c).1.Store.Now), val (vI (cz c).1.ZJ), sl ae ((cz c).1.Order.map an), sl dr ((cz c).1.ZF.map (bq aP ae ae aR ae)), sl cQ ((cz c).1.Done.map (bN aP ae aR ae)), sl cH ((cz c).1.ZR.map (bF ae ae ae)), val (vI (cz c).1.Steps)])]) func64 rfl (nl rfl) (nl rfl) ?_
 intro g_ h0 w0 Fz0
 have hew := Np c
 refine Ah ?_
 refine sT [0, 2, 5000] [0, 2] ?_
 refine rA ?_ (x := cM Cp.ptr)
 refine rA ?_ (x := bR (bx := 0) (qs := [(false, [val _])]) (as_ := [(false, [val _])]) (by decide) Sh rfl (by exact (aI (aJ rfl) tI)) (by exact (aI (aI rfl (aq ao.nil)) tI)) (by exact (ab.cons (bor_sl _) (ab.cons (bor_val _) (ab.cons (bor_val _) ab.nil)))) (by exact (bV (ab.cons (bor_val _) ab.nil) bH)) (by exact (Yo (most := 14) (fun es => bor_sl es) (by decide))))
 refine oE ?_
 refine dO ?_
 refine sO [(0, _), (2, _), (3, _), (5000, _)] [(0, _), (2, _), (3, (46, [sl _ _, val _, val _, sl _ _, sl _ _, sl _ _, sl _ _, val _]))] ?_
 refine bi ?_
 refine vv ?_
 refine fM ?_
 refine pU ?_
 refine sc (fun hba => ?_) (fun hba => ?_)
 have hr := XZ (c := c) hba
 refine Ab ?_
 refine rA ?_ (x := bm (qs := [(false, [val _]), (false, [val _])]) (by decide) aW bX (by decide) rfl rfl rfl rfl rfl (by exact nl rfl) (by exact (aI (aJ rfl) (aI (aJ rfl) tI))) rfl)
 refine rA ?_ (x := bR (bx := 0) (qs := [(false, [sl _ _])]) (as_ := [(false, [sl .v _])]) (by decide) jh rfl (by exact (aI (by exact tI) tI)) (by exact (aI (aI rfl (aA ao.nil)) tI)) (by exact (ab.cons (bor_sl _) (ab.cons (bor_val _) (ab.cons (bor_val _) ab.nil)))) (by exact (bV (ab.cons (bor_sl _) ab.nil) bH)) (by exact (jm (l := [-1, 8]) (fun es => bor_sl es) (by decide) (by decide))))
 refine rA ?_ (x := lF kN)
 exact GW
 have h0_ := hba
 refine pU ?_
 refine sc (fun hbb => ?_) (fun hbb => ?_)
 have hr := Ya (c := c) h0_ hbb
 refine sG [0, 2, 3, 7, 5000] [0, 2, 3] ?_
 refine HS ?_
 refine rA ?_ (x := bR (bx := 0) (qs := [(false, [sl _ _])]) (as_ := [(false, [sl .v _])]) (by decide) jh rfl (by exact (aI (by exact tI) tI)) (by exact (aI (aI rfl (aA ao.nil)) tI)) (by exact (ab.cons (bor_sl _) (ab.cons (bor_val _) (ab.cons (bor_val _) ab.nil)))) (by exact (bV (ab.cons (bor_sl _) ab.nil) bH)) (by exact (jm (l := [-1, 99999, 100000, 100001]) (fun es => bor_sl es) (by decide) (by decide))))
 refine rA ?_ (x := lF mN)
 exact GW
 have h1_ := hbb
 refine pU ?_
 refine sc (fun hbc => ?_) (fun hbc => ?_)
 have hr := Yb (c := c) h0_ h1_ hbc
 refine sG [0, 2, 3, 7, 5000] [0, 2, 3] ?_
 refine rA ?_ (x := lF fB)
 refine rA ?_ (x := lF fG)
 refine rA ?_ (x := bf (ag := false) (vs := [val _]) aw (aJ rfl) (by exact rfl) (by exact nl rfl))
 exact zi
 have h2_ := hbc
 refine pU ?_
 refine sc (fun hbd => ?_) (fun hbd => ?_)
 have hr := Yc (c := c) h0_ h1_ h2_ hbd
 refine Ab ?_
 refine rA ?_ (x := bR (bx := 0) (qs := []) (as_ := []) (by decide) Si rfl (by exact tI) (by exact tI) (by exact (ab.cons (bor_sl _) (ab.cons (bor_val _) (ab.cons (bor_val _) ab.nil)))) (by exact bH) (by exact Yn))
 refine rA ?_ (x := lF uj)
 refine rA ?_ (x := bf (ag := false) (vs := [sl _ _]) bz (by exact tI) (by exact rfl) (by exact nl rfl))
 exact zi
 have hr := Yd (c := c) h0_ h1_ h2_ hbd
 refine bc ?_
 refine sS [0, 2, 3, 7, 5000] [0, 2, 3] ?_
 exact GV
def Yq {code : List Int}  (hb : code.length ≤ 9223372036854775807) (hb2 : code.length ≤ 4611686018427387904) : aN prog 15 [(false, [sl .v (code.map jL)])] (aF [(true, [sl bQ ((cz (dg code hb)).1.Store.ZE.map (aO be ae)), val (vI (cz (dg code hb)).1.Store.Now), val (vI (cz (dg code hb)).1.ZJ), sl ae ((cz (dg code hb)).1.Order.map an), sl dr ((cz (dg code hb)).1.ZF.map (bq aP ae ae aR ae)), sl cQ ((cz (dg code hb)).1.Done.map (bN aP ae aR ae)), sl cH ((cz (dg code hb)).1.ZR.map (bF ae ae ae)), val (vI (cz (dg code hb)).1.Steps)])]) := by
 refine sF func15 fun h0 w0 Fz0 => ?_
 refine sj 0 fun hl0 => ?_
 have hew := Nq (dg code hb)
 refine Ah ?_
 refine sT [0, 2] [2] ?_
 refine vC ?_
 refine rA ?_ (x := bR (bx := 4) (qs := []) (as_ := []) (by decide) Tt rfl (by exact tI) (by exact tI) (by exact (ab.cons (bor_sl _) (ab.cons (bor_val _) (ab.cons (bor_val _) ab.nil)))) (by exact bH) (by exact Yp))
 refine rA ?_ (x := bf (ag := true) (vs := [sl _ _, val _, val _, sl _ _, sl _ _, sl _ _, sl _ _, val _]) co (by exact tI) (by exact rfl) (by exact nl rfl))
 refine dc ?_
 exact (bj 2 (bj _ (aI (by exact rfl) (aI (by exact rfl) (aI co (aI (fun h => nomatch h) tI))))))
end Go.Proofs.YtmekkgdboplbjaaGreatDoor
