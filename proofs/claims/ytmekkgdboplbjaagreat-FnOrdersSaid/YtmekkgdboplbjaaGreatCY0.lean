/- What functions of the program compute. No condition. -/
import Derived.Test.YtmekkgdboplbjaaGreatCX0
set_option linter.unusedVariables false
set_option linter.unusedSimpArgs false
namespace Go.Proofs.YtmekkgdboplbjaaGreat
open Go Go.RowKit M PV
set_option maxRecDepth 10000
attribute [local irreducible] PV.Lcl PV.LclR RV.Lcl
set_option maxHeartbeats 8000000
theorem SS : cU Tryz.prog 63 = some [(0, 4), (4, 1), (5, 1), (6, 1)] := by kernel_rfl
theorem SU {e : am}  (hoe : aH e = true) (hst : e.Steps < 100000) (hld : (e.Ledger.length : Int) < 1000) (hda : (e.Done.length : Int) + (e.Active.length : Int) ≤ 1000) (hb : aO e ≤ 68719000000) : fE Tryz.prog 159 32 [sl (.own 139 1) (e.Store.Segments.map (ax (.own 184 4) (.own 3 1))), val (vI e.Store.Now), val (vI e.Cursor), sl (.own 3 1) (e.Order.map ai), sl (.own 108 10) (e.Active.map (aG (.own 178 3) (.own 3 1) (.own 3 1) (.own 54 2) (.own 3 1))), sl (.own 63 7) (e.Done.map (aP (.own 178 3) (.own 3 1) (.own 54 2) (.own 3 1))), sl (.own 70 5) (e.Ledger.map (aR (.own 3 1) (.own 3 1) (.own 3 1))), val (vI e.Steps)] [sl (.own 139 1) ((cf (eN e)).Store.Segments.map (ax (.own 184 4) (.own 3 1))), val (vI (cf (eN e)).Store.Now), val (vI (cf (eN e)).Cursor), sl (.own 3 1) ((cf (eN e)).Order.map ai), sl (.own 108 10) ((cf (eN e)).Active.map (aG (.own 178 3) (.own 3 1) (.own 3 1) (.own 54 2) (.own 3 1))), sl (.own 63 7) ((cf (eN e)).Done.map (aP (.own 178 3) (.own 3 1) (.own 54 2) (.own 3 1))), sl (.own 70 5) ((cf (eN e)).Ledger.map (aR (.own 3 1) (.own 3 1) (.own 3 1))), val (vI (cf (eN e)).Steps)] [] (av []) := by
 refine gG (rs := []) Tryz.func159 rfl (nl rfl) (nl rfl) ?_
 intro g_ h0 w0 Fz0
 have hef := fg hoe
 have hcl : e.Cursor.toNat < e.Store.Segments.length := hef.2.2.2.1
 have hpl := nN (e := e)
 have hswt := zL hoe
 obtain ⟨hs8, hs1, _, _, _, _⟩ := jj hef.1
 have hbu := hb
 simp only [aO, fp, gK, f4] at hbu
 refine sR ?_
 refine i2 ?_
 refine FY ?_
 refine i6 ?_
 refine sT [0, 2, 5000] [0] ?_
 refine fZ ?_
 refine rA ?_ (x := dD)
 refine sc (fun hba => ?_) (fun hba => ?_)
 have hled : d4 e (parts e).length = e.Ledger ++ [cz e (parts e).length] := by unfold d4; rw [if_neg (by omega)]
 refine sP [0, 2, 5000] [0] ?_
 refine mK ?_
 refine wA ?_ (x := cM Cp.ptr)
 refine wA ?_ (x := tM)
 refine wO [(0, _), (14, _), (15, _), (5000, _)] [(0, _)] ?_
 refine qd (bx := 0) (L := vK) (qs := [(false, [sl _ _])]) (as_ := [(false, [sl _ _])]) (by decide) Pv rfl (by exact rfl) (by exact rfl) (by exact ⟨rfl, ⟨⟩⟩) (by exact (aI (by exact ⟨⟩) tI)) (by decide) (by exact (aI (aI rfl (en.cons OTo.refl en.nil)) tI)) (by exact (SR (e := e) rfl hoe (by omega))) (fun x hx => hx.elim) (by exact lq) (by exact (aI (.inl rfl) tI)) ?_
 refine og ?_
 refine sT [0, 5000] [0] ?_
 refine i2 ?_
 refine rA ?_ (x := lF ee)
 refine i5 ?_
 refine rS ?_
 refine sS [0, 3, 5000] [0] ?_
 refine tH ?_
 refine aJ ?_
 refine sS [0, 3, 4, 5000] [0] ?_
 refine bw ?_
 refine sP [0, 3, 4, 5, 5000] [0] ?_
 refine cD (d := 0) (by exact rfl) (show _ = [sl (.own 139 1) (e.Store.Segments.map (ax (.own 184 4) (.own 3 1))), val (vI e.Store.Now), val (vI e.Cursor), sl (.own 3 1) (e.Order.map ai), sl (.own 108 10) ((bj e (parts e).length).map (aG (.own 178 3) (.own 3 1) (.own 3 1) (.own 54 2) (.own 3 1))), sl (.own 63 7) (e.Done.map (aP (.own 178 3) (.own 3 1) (.own 54 2) (.own 3 1))), sl (.own 70 5) ((d4 e (parts e).length).map (aR (.own 3 1) (.own 3 1) (.own 3 1))), val (vI e.Steps)] from by first | (rw [hled]; done) | (rw [hled]; exact rfl) | (rw [hled, hsv]; done) | (rw [hled, hsv]; exact rfl)) ?_
 refine sP [0, 3, 4, 5, 5000] [0] ?_
 refine qh (d := 0) (t := 108) (e := 10) (G := 6200) (A := [sl _ _, val _, val _, sl _ _]) (B := [sl _ _, sl _ _, val _]) (f := (aG (.own 178 3) (.own 3 1) (.own 3 1) (.own 54 2) (.own 3 1))) (g := (fun z : Active => [val (vI z.Query.Id), val (vI z.Query.Tenant), sl .v (z.Query.Conds.map bR), sl .v (z.Query.Out.map ai), val (vI z.Time), sl .v (z.Todo.map ai), val (vI z.Age), val (vI z.Sent), val (vI z.Cap), sl .v (z.Rows.map (bn (.own 3 1)))])) (fN := fx) (xs := (bj e (parts e).length)) (by exact rfl) (by exact rfl) (fun _ _ => rfl) (fun _ => rfl) (fun _ => (ab.cons (PV.To.refl _) (ab.cons (PV.To.refl _) (ab.cons PV.to_none (ab.cons PV.to_none (ab.cons (PV.To.refl _) (ab.cons PV.to_none (ab.cons (PV.To.refl _) (ab.cons (PV.To.refl _) (ab.cons (PV.To.refl _) (ab.cons PV.to_none ab.nil))))))))))) (fun _ => (by exact lq)) fun za hza => ?_
 have hzal : za.length = e.Active.length := by rw [← List.length_map (f := Prod.fst), hza, iz]
 refine sQ [0, 3, 4, 5, 5000, 6200] [0] ?_
 refine sL [0, 3, 5000] [] (fun m : Nat => m ≤ e.Active.length) (fun m : Nat => [(4, RV.slc (.own 108 10) ((fK e (parts e).length m).map (aG (.own 178 3) (.own 3 1) (.own 3 1) (.own 54 2) (.own 3 1)))), (5, RV.int (m : Int)), (6200, RV.gh (bo 10 (za.drop m)) (br (aG (.own 178 3) (.own 3 1) (.own 3 1) (.own 54 2) (.own 3 1)) (za.drop m)))]) (fun m : Nat => [(0, (32, [sl (.own 139 1) (e.Store.Segments.map (ax (.own 184 4) (.own 3 1))), val (vI e.Store.Now), val (vI e.Cursor), sl (.own 3 1) (e.Order.map ai), sl .v (za.map fx), sl (.own 63 7) ((e.Done ++ dS e (parts e).length m).map (aP (.own 178 3) (.own 3 1) (.own 54 2) (.own 3 1))), sl (.own 70 5) ((d4 e (parts e).length).map (aR (.own 3 1) (.own 3 1) (.own 3 1))), val (vI e.Steps)]))]) (fun m : Nat => e.Active.length - m) 0 (by omega) (by exact aI (by exact rfl) (aI (by exact rfl) (aI (by exact rfl) (tI)))) (by exact aI (by show _ = some (32, [sl (.own 139 1) (e.Store.Segments.map (ax (.own 184 4) (.own 3 1))), val (vI e.Store.Now), val (vI e.Cursor), sl (.own 3 1) (e.Order.map ai), sl .v (za.map fx), sl (.own 63 7) ((e.Done ++ dS e (parts e).length 0).map (aP (.own 178 3) (.own 3 1) (.own 54 2) (.own 3 1))), sl (.own 70 5) ((d4 e (parts e).length).map (aR (.own 3 1) (.own 3 1) (.own 3 1))), val (vI e.Steps)]); rw [show dS e (parts e).length 0 = [] from rfl, List.append_nil]; exact rfl) (tI)) ?_
 rintro m hm
 have hrl2 := vg (e := e) (k := (parts e).length) (m := m)
 have hdl2 := vh (e := e) (k := (parts e).length) (m := m)
 refine bu ?_
 refine i2 ?_
 refine nk ?_
 refine sc (fun hbb => ?_) (fun hbb => ?_)
 have hltm : m < e.Active.length := by omega
 have hltz : m < za.length := by omega
 have hm2 : m < (bj e (parts e).length).length := by rw [iz]; exact hltm
 have hm1 : m < (bL e (parts e).length).length := by rw [pB]; exact hltm
 have hz3 : za[m].1 = (bj e (parts e).length)[m] := by simp [← hza]
 have hab := vj hoe hltm hm2
 rw [← hz3] at hab
 refine aT ?_
 refine sT [0, 3, 4, 5, 5000, 6200] [0] ?_
 refine i2 ?_
 refine l6 ?_
 refine rM ?_
 refine xg ?_
 refine xk ?_
 refine sO [(0, _), (3, _), (4, _), (5, _), (6, _), (5000, _), (6200, _)] [(0, _), (6, (108, [nv _ (val _), nv _ (val _), nv _ (sl _ _), nv _ (sl _ _), nv _ (val _), nv _ (sl _ _), nv _ (val _), nv _ (val _), nv _ (val _), nv _ (sl _ _)]))] ?_
 refine FQ ?_
 refine tz ?_
 refine rA ?_ (x := lF kC)
 refine ma ?_
 refine rA ?_ (x := lF kC)
 refine kh ?_
 refine aJ ?_
 refine tz ?_
 refine t3 ?_
 refine rM ?_
 refine xJ ?_
 refine sc (fun hbc => ?_) (fun hbc => ?_)
 have hga : (bL e (parts e).length)[m] = (⟨za[m].1.Query, za[m].1.Time, za[m].1.Todo, za[m].1.Age + 1, 0, za[m].1.Cap, za[m].1.Rows⟩ : Active) := by rw [pC hm1 hm2, ← hz3]; exact zF hbc
 refine sG [0, 3, 4, 5, 6, 5000, 6200] [0, 6] ?_
 refine xG ?_
 refine aJ ?_
 refine tz ?_
 exact D7
 have hga : (bL e (parts e).length)[m] = (⟨za[m].1.Query, za[m].1.Time, za[m].1.Todo, za[m].1.Age + 1, za[m].1.Sent, za[m].1.Cap, za[m].1.Rows⟩ : Active) := by rw [pC hm1 hm2, ← hz3]; exact zG hbc
 refine aN ?_
 refine sS [0, 3, 4, 5, 6, 5000, 6200] [0, 6] ?_
 exact D7
 have hend2 : m = e.Active.length := by omega
 subst hend2
 refine aX ?_
 refine sT [0, 3, 4, 5, 5000, 6200] [0] ?_
 refine rA ?_ (x := cM Cp.ptr)
 refine rA ?_ (x := tM)
 refine rA ?_ (x := fU (by decide))
 refine m4 ?_
 refine sT [0, 3, 5, 5000, 6200] [0] ?_
 refine qX ?_
 refine qT ?_
 refine b5 ?_
 refine H1 ?_
 refine HN ?_
 refine sT [0, 3, 5, 5000, 6200] [0] ?_
 refine qX ?_
 refine rA ?_ (x := lF io)
 refine yo ?_
 refine HO ?_
 refine sQ [0, 3, 5, 5000] [0] ?_
 refine mK ?_
 refine wA ?_ (x := cM Cp.ptr)
 refine wO [(0, _), (3, _), (5, _), (98, _), (5000, _)] [(0, _)] ?_
 exact D8
 have hled : d4 e (parts e).length = e.Ledger := by unfold d4; rw [if_pos (by omega)]
 have hsv : (bj e (parts e).length) = e.Active := by rw [show (parts e).length = 0 by omega]; exact zB
 refine aN ?_
 refine sS [0, 2, 5000] [0] ?_
 refine i2 ?_
 refine rA ?_ (x := lF ee)
 refine i5 ?_
 refine rS ?_
 refine sS [0, 2, 3, 5000] [0] ?_
 refine tH ?_
 refine aJ ?_
 refine sS [0, 2, 3, 4, 5000] [0] ?_
 refine bw ?_
 refine sP [0, 2, 3, 4, 5, 5000] [0] ?_
 refine cD (d := 0) (by exact rfl) (show _ = [sl (.own 139 1) (e.Store.Segments.map (ax (.own 184 4) (.own 3 1))), val (vI e.Store.Now), val (vI e.Cursor), sl (.own 3 1) (e.Order.map ai), sl (.own 108 10) ((bj e (parts e).length).map (aG (.own 178 3) (.own 3 1) (.own 3 1) (.own 54 2) (.own 3 1))), sl (.own 63 7) (e.Done.map (aP (.own 178 3) (.own 3 1) (.own 54 2) (.own 3 1))), sl (.own 70 5) ((d4 e (parts e).length).map (aR (.own 3 1) (.own 3 1) (.own 3 1))), val (vI e.Steps)] from by first | (rw [hled]; done) | (rw [hled]; exact rfl) | (rw [hled, hsv]; done) | (rw [hled, hsv]; exact rfl)) ?_
 refine sP [0, 2, 3, 4, 5, 5000] [0] ?_
 refine qh (d := 0) (t := 108) (e := 10) (G := 6200) (A := [sl _ _, val _, val _, sl _ _]) (B := [sl _ _, sl _ _, val _]) (f := (aG (.own 178 3) (.own 3 1) (.own 3 1) (.own 54 2) (.own 3 1))) (g := (fun z : Active => [val (vI z.Query.Id), val (vI z.Query.Tenant), sl .v (z.Query.Conds.map bR), sl .v (z.Query.Out.map ai), val (vI z.Time), sl .v (z.Todo.map ai), val (vI z.Age), val (vI z.Sent), val (vI z.Cap), sl .v (z.Rows.map (bn (.own 3 1)))])) (fN := fx) (xs := (bj e (parts e).length)) (by exact rfl) (by exact rfl) (fun _ _ => rfl) (fun _ => rfl) (fun _ => (ab.cons (PV.To.refl _) (ab.cons (PV.To.refl _) (ab.cons PV.to_none (ab.cons PV.to_none (ab.cons (PV.To.refl _) (ab.cons PV.to_none (ab.cons (PV.To.refl _) (ab.cons (PV.To.refl _) (ab.cons (PV.To.refl _) (ab.cons PV.to_none ab.nil))))))))))) (fun _ => (by exact lq)) fun za hza => ?_
 have hzal : za.length = e.Active.length := by rw [← List.length_map (f := Prod.fst), hza, iz]
 refine sQ [0, 2, 3, 4, 5, 5000, 6200] [0] ?_
 refine sL [0, 2, 3, 5000] [] (fun m : Nat => m ≤ e.Active.length) (fun m : Nat => [(4, RV.slc (.own 108 10) ((fK e (parts e).length m).map (aG (.own 178 3) (.own 3 1) (.own 3 1) (.own 54 2) (.own 3 1)))), (5, RV.int (m : Int)), (6200, RV.gh (bo 10 (za.drop m)) (br (aG (.own 178 3) (.own 3 1) (.own 3 1) (.own 54 2) (.own 3 1)) (za.drop m)))]) (fun m : Nat => [(0, (32, [sl (.own 139 1) (e.Store.Segments.map (ax (.own 184 4) (.own 3 1))), val (vI e.Store.Now), val (vI e.Cursor), sl (.own 3 1) (e.Order.map ai), sl .v (za.map fx), sl (.own 63 7) ((e.Done ++ dS e (parts e).length m).map (aP (.own 178 3) (.own 3 1) (.own 54 2) (.own 3 1))), sl (.own 70 5) ((d4 e (parts e).length).map (aR (.own 3 1) (.own 3 1) (.own 3 1))), val (vI e.Steps)]))]) (fun m : Nat => e.Active.length - m) 0 (by omega) (by exact aI (by exact rfl) (aI (by exact rfl) (aI (by exact rfl) (tI)))) (by exact aI (by show _ = some (32, [sl (.own 139 1) (e.Store.Segments.map (ax (.own 184 4) (.own 3 1))), val (vI e.Store.Now), val (vI e.Cursor), sl (.own 3 1) (e.Order.map ai), sl .v (za.map fx), sl (.own 63 7) ((e.Done ++ dS e (parts e).length 0).map (aP (.own 178 3) (.own 3 1) (.own 54 2) (.own 3 1))), sl (.own 70 5) ((d4 e (parts e).length).map (aR (.own 3 1) (.own 3 1) (.own 3 1))), val (vI e.Steps)]); rw [show dS e (parts e).length 0 = [] from rfl, List.append_nil]; exact rfl) (tI)) ?_
 rintro m hm
 have hrl2 := vg (e := e) (k := (parts e).length) (m := m)
 have hdl2 := vh (e := e) (k := (parts e).length) (m := m)
 refine bu ?_
 refine i2 ?_
 refine nk ?_
 refine sc (fun hbb => ?_) (fun hbb => ?_)
 have hltm : m < e.Active.length := by omega
 have hltz : m < za.length := by omega
 have hm2 : m < (bj e (parts e).length).length := by rw [iz]; exact hltm
 have hm1 : m < (bL e (parts e).length).length := by rw [pB]; exact hltm
 have hz3 : za[m].1 = (bj e (parts e).length)[m] := by simp [← hza]
 have hab := vj hoe hltm hm2
 rw [← hz3] at hab
 refine aT ?_
 refine sT [0, 2, 3, 4, 5, 5000, 6200] [0] ?_
 refine i2 ?_
 refine l6 ?_
 refine rM ?_
 refine xg ?_
 refine xk ?_
 refine sO [(0, _), (2, _), (3, _), (4, _), (5, _), (6, _), (5000, _), (6200, _)] [(0, _), (6, (108, [nv _ (val _), nv _ (val _), nv _ (sl _ _), nv _ (sl _ _), nv _ (val _), nv _ (sl _ _), nv _ (val _), nv _ (val _), nv _ (val _), nv _ (sl _ _)]))] ?_
 refine FQ ?_
 refine tv ?_
 refine rA ?_ (x := lF kC)
 refine ma ?_
 refine rA ?_ (x := lF kC)
 refine kh ?_
 refine aJ ?_
 refine tv ?_
 refine t3 ?_
 refine rM ?_
 refine xJ ?_
 refine sc (fun hbc => ?_) (fun hbc => ?_)
 have hga : (bL e (parts e).length)[m] = (⟨za[m].1.Query, za[m].1.Time, za[m].1.Todo, za[m].1.Age + 1, 0, za[m].1.Cap, za[m].1.Rows⟩ : Active) := by rw [pC hm1 hm2, ← hz3]; exact zF hbc
 refine sG [0, 2, 3, 4, 5, 6, 5000, 6200] [0, 6] ?_
 refine xG ?_
 refine aJ ?_
 refine tv ?_
 exact D9
 have hga : (bL e (parts e).length)[m] = (⟨za[m].1.Query, za[m].1.Time, za[m].1.Todo, za[m].1.Age + 1, za[m].1.Sent, za[m].1.Cap, za[m].1.Rows⟩ : Active) := by rw [pC hm1 hm2, ← hz3]; exact zG hbc
 refine aN ?_
 refine sS [0, 2, 3, 4, 5, 6, 5000, 6200] [0, 6] ?_
 exact D9
 have hend2 : m = e.Active.length := by omega
 subst hend2
 refine aX ?_
 refine sT [0, 2, 3, 4, 5, 5000, 6200] [0] ?_
 refine rA ?_ (x := cM Cp.ptr)
 refine rA ?_ (x := tM)
 refine rA ?_ (x := fU (by decide))
 refine m4 ?_
 refine sT [0, 2, 3, 5, 5000, 6200] [0] ?_
 refine qX ?_
 refine qT ?_
 refine b5 ?_
 refine H1 ?_
 refine HN ?_
 refine sT [0, 2, 3, 5, 5000, 6200] [0] ?_
 refine qX ?_
 refine rA ?_ (x := lF io)
 refine yo ?_
 refine HO ?_
 refine sQ [0, 2, 3, 5, 5000] [0] ?_
 refine mK ?_
 refine wA ?_ (x := cM Cp.ptr)
 refine wO [(0, _), (2, _), (3, _), (5, _), (98, _), (5000, _)] [(0, _)] ?_
 exact D8
theorem Lt {p1 p2 p5 p6 p7 p8 p9 p11 p12 p13 p14 p16 p17 p18 : Fl} {e : am}  (hb : aO e ≤ 68719000000) : aw Tryz.prog 61 [(true, [sl .v (e.Store.Segments.map (ax p1 p2)), val (vI e.Store.Now), val (vI e.Cursor), sl .v (e.Order.map ai), sl .v (e.Active.map (aG p5 p6 p7 p8 p9)), sl .v (e.Done.map (aP p11 p12 p13 p14)), sl .v (e.Ledger.map (aR p16 p17 p18)), val (vI e.Steps)])] (av [(true, [sl (.own 139 1) ((bU e).Store.Segments.map (ax (.own 184 4) (.own 3 1))), val (vI (bU e).Store.Now), val (vI (bU e).Cursor), sl (.own 3 1) ((bU e).Order.map ai), sl (.own 108 10) ((bU e).Active.map (aG (.own 178 3) (.own 3 1) (.own 3 1) (.own 54 2) (.own 3 1))), sl (.own 63 7) ((bU e).Done.map (aP (.own 178 3) (.own 3 1) (.own 54 2) (.own 3 1))), sl (.own 70 5) ((bU e).Ledger.map (aR (.own 3 1) (.own 3 1) (.own 3 1))), val (vI (bU e).Steps)]), (false, [val (.bool (eC e))])]) := by
 refine kX (largs := fun L => [(true, [sl (.lo L) (e.Store.Segments.map (ax (.lo L) (.lo L))), val (vI e.Store.Now), val (vI e.Cursor), sl (.lo L) (e.Order.map ai), sl (.lo L) (e.Active.map (aG (.lo L) (.lo L) (.lo L) (.lo L) (.lo L))), sl (.lo L) (e.Done.map (aP (.lo L) (.lo L) (.lo L) (.lo L))), sl (.lo L) (e.Ledger.map (aR (.lo L) (.lo L) (.lo L))), val (vI e.Steps)])]) (rs := [(true, [sl (.own 139 1) ((bU e).Store.Segments.map (ax (.own 184 4) (.own 3 1))), val (vI (bU e).Store.Now), val (vI (bU e).Cursor), sl (.own 3 1) ((bU e).Order.map ai), sl (.own 108 10) ((bU e).Active.map (aG (.own 178 3) (.own 3 1) (.own 3 1) (.own 54 2) (.own 3 1))), sl (.own 63 7) ((bU e).Done.map (aP (.own 178 3) (.own 3 1) (.own 54 2) (.own 3 1))), sl (.own 70 5) ((bU e).Ledger.map (aR (.own 3 1) (.own 3 1) (.own 3 1))), val (vI (bU e).Steps)]), (false, [val (.bool (eC e))])]) Tryz.func61 rfl (nl rfl) (fun L => by exact (aI (aI rfl (ah.cons (PV.tob_map (fun _ => nl rfl) (fun _ => (ah.cons (PV.tob_map (fun _ => nl rfl) (fun _ => (ah.cons PV.tob_refl (ah.cons (PV.tob_map (fun _ => nl rfl) (fun _ => (ah.cons PV.tob_refl ah.nil))) (ah.cons PV.tob_refl (ah.cons PV.tob_refl ah.nil)))))) ah.nil))) (ah.cons PV.tob_refl (ah.cons PV.tob_refl (ah.cons (PV.tob_map (fun _ => nl rfl) (fun _ => (ah.cons PV.tob_refl ah.nil))) (ah.cons (PV.tob_map (fun _ => nl rfl) (fun _ => (ah.cons PV.tob_refl (ah.cons PV.tob_refl (ah.cons (PV.tob_map (fun _ => nl rfl) (fun _ => (ah.cons PV.tob_refl (ah.cons PV.tob_refl (ah.cons PV.tob_refl ah.nil))))) (ah.cons (PV.tob_map (fun _ => nl rfl) (fun _ => (ah.cons PV.tob_refl ah.nil))) (ah.cons PV.tob_refl (ah.cons (PV.tob_map (fun _ => nl rfl) (fun _ => (ah.cons PV.tob_refl ah.nil))) (ah.cons PV.tob_refl (ah.cons PV.tob_refl (ah.cons PV.tob_refl (ah.cons (PV.tob_map (fun _ => nl rfl) (fun _ => (ah.cons PV.tob_refl (ah.cons (PV.tob_map (fun _ => nl rfl) (fun _ => (ah.cons PV.tob_refl ah.nil))) ah.nil)))) ah.nil)))))))))))) (ah.cons (PV.tob_map (fun _ => nl rfl) (fun _ => (ah.cons PV.tob_refl (ah.cons PV.tob_refl (ah.cons (PV.tob_map (fun _ => nl rfl) (fun _ => (ah.cons PV.tob_refl (ah.cons PV.tob_refl (ah.cons PV.tob_refl ah.nil))))) (ah.cons (PV.tob_map (fun _ => nl rfl) (fun _ => (ah.cons PV.tob_refl ah.nil))) (ah.cons PV.tob_refl (ah.cons PV.tob_refl (ah.cons (PV.tob_map (fun _ => nl rfl) (fun _ => (ah.cons PV.tob_refl (ah.cons (PV.tob_map (fun _ => nl rfl) (fun _ => (ah.cons PV.tob_refl ah.nil))) ah.nil)))) ah.nil))))))))) (ah.cons (PV.tob_map (fun _ => nl rfl) (fun _ => (ah.cons PV.tob_refl (ah.cons PV.tob_refl (ah.cons (PV.tob_map (fun _ => nl rfl) (fun _ => (ah.cons PV.tob_refl ah.nil))) (ah.cons (PV.tob_map (fun _ => nl rfl) (fun _ => (ah.cons PV.tob_refl ah.nil))) (ah.cons (PV.tob_map (fun _ => nl rfl) (fun _ => (ah.cons PV.tob_refl ah.nil))) ah.nil))))))) (ah.cons PV.tob_refl ah.nil))))))))) tI)) (fun L => by exact lq) ?_
 intro w0 Fz0
 refine sn 0 0 fun hl0_0 => ?_
 refine sn 0 3 fun hl0_3 => ?_
 refine sn 0 4 fun hl0_4 => ?_
 refine sn 0 5 fun hl0_5 => ?_
 refine sn 0 6 fun hl0_6 => ?_
 have hbu := hb
 simp only [aO, fp, gK, f4] at hbu
 refine tB ?_
 refine Gx ?_
 refine xn ?_
 refine HC ?_
 refine Ge ?_
 refine dI ?_
 refine cx 10 (fun ga sga => ?_) (fun ga sga => ?_)
 refine ij ?_
 refine an.cases (s := 15) rfl (fun g2 => ?_) (fun g2 => nomatch g2)
 refine ln ?_
 refine an.cases (s := 21) rfl (fun g3 => ?_) (fun g3 => nomatch g3)
 exact DX
 refine rB ga ?_ (x := lF io)
 refine rB ga ?_ (x := lD [val _] aq)
 refine rB ga ?_ (x := gH)
 refine gJ ?_
 refine cx 15 (fun gb sgb => ?_) (fun gb sgb => ?_)
 refine kr ?_
 refine an.cases (s := 21) rfl (fun g6 => ?_) (fun g6 => nomatch g6)
 exact DY
 refine rB gb ?_ (x := lF gt)
 refine rB gb ?_ (x := lD [sl (.lo _) _] gw)
 refine rB gb ?_ (x := lN fq)
 refine rB gb ?_ (x := gH)
 refine m9 ?_
 refine cx 21 (fun gc sgc => ?_) (fun gc sgc => ?_)
 exact DZ
 refine rB gc ?_ (x := lF jO)
 refine rB gc ?_ (x := lD [sl (.lo _) _] jR)
 refine rB gc ?_ (x := lN iq)
 refine rB gc ?_ (x := lF dJ)
 refine rB gc ?_ (x := lD [sl (.lo _) _] dm)
 refine rB gc ?_ (x := lN bJ)
 refine rB gc ?_ (x := gI)
 refine yu ?_
 refine sc (fun hba => ?_) (fun hba => ?_)
 exact qn
 have hok : eC e = true := by
  have ho_ : aH e = true := by simp_all
  have hef_ := fg ho_
  unfold eC
  rw [ho_]
  simp only [Bool.true_and, Bool.and_eq_true, decide_eq_true_eq]
  exact ⟨by omega, by omega, by omega⟩
 obtain ⟨hoe, hst, hld, hda⟩ := rP hok
 refine dE ?_
 refine sP [1, 2, 3, 4] [1, 2, 4] ?_
 refine mK ?_
 refine wO [(1, _), (2, _), (3, _), (4, _)] [(1, _), (2, _), (4, _)] ?_
 refine qd (bx := 4) (L := (Lw w0.heap.size)) (qs := []) (as_ := []) (by decide) O9 rfl (by exact rfl) (by exact rfl) (by exact ⟨⟩) (by exact ⟨⟩) (by decide) (by exact ⟨⟩) (by exact (SU (by assumption) (by omega) (by omega) (by omega) (by omega))) (fun x hx => hx) (by exact lq) (by exact lq) ?_
 refine og ?_
 refine aJ ?_
 refine sO [(1, _), (2, _), (3, _), (4, _)] [(1, _), (2, _), (4, (32, [sl _ _, val _, val _, sl _ _, sl _ _, sl _ _, sl _ _, val _]))] ?_
 refine aM ?_
 refine lb ?_
 refine rK ?_
 exact D5
end Go.Proofs.YtmekkgdboplbjaaGreat
