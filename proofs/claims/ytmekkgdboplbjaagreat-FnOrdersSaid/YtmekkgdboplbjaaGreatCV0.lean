/- What functions of the program compute. No condition. -/
import Derived.Test.YtmekkgdboplbjaaGreatCP0
import Derived.Test.YtmekkgdboplbjaaGreatCQ0
set_option linter.unusedVariables false
set_option linter.unusedSimpArgs false
namespace Go.Proofs.YtmekkgdboplbjaaGreat
open Go Go.RowKit M PV
set_option maxRecDepth 10000
attribute [local irreducible] PV.Lcl PV.LclR RV.Lcl
theorem SF : cU Tryz.prog 54 = some [(0, 1), (1, 1)] := by kernel_rfl
theorem SG {p4 : Fl} {a : Active}  : aw Tryz.prog 228 [(true, [val (vI a.Query.Id), val (vI a.Query.Tenant), sl .v (a.Query.Conds.map bR), sl .v (a.Query.Out.map ai), val (vI a.Time), sl .v (a.Todo.map ai), val (vI a.Age), val (vI a.Sent), val (vI a.Cap), sl .v (a.Rows.map (bn p4))])] (av [(false, [val (.bool (kG a))])]) := by
 refine sF Tryz.func228 fun h0 w0 Fz0 => ?_
 refine sn 0 2 fun hl0_2 => ?_
 refine sn 0 3 fun hl0_3 => ?_
 refine sn 0 5 fun hl0_5 => ?_
 refine sn 0 9 fun hl0_9 => ?_
 refine sR ?_
 refine xy ?_
 refine sT [1, 2] [1] ?_
 refine rA ?_ (x := lF pi)
 refine nu ?_
 refine cx 6 (fun ga sga => ?_) (fun ga sga => ?_)
 refine tt ?_
 exact DD
 refine rB ga ?_ (x := lF pi)
 refine rB ga ?_ (x := lD [val _] aq)
 refine rB ga ?_ (x := lF jN)
 refine rB ga ?_ (x := lD [val _] aq)
 refine rB ga ?_ (x := dD)
 refine rA ?_ (x := ay ga)
 exact DD
theorem SH {p1 p2 p5 p6 p7 p8 p9 p11 p12 p13 p14 p16 p17 p18 : Fl} {e : am} {i : Int}  (hb : aO e ≤ 68719476736) : aw Tryz.prog 243 [(true, [sl .v (e.Store.Segments.map (ax p1 p2)), val (vI e.Store.Now), val (vI e.Cursor), sl .v (e.Order.map ai), sl .v (e.Active.map (aG p5 p6 p7 p8 p9)), sl .v (e.Done.map (aP p11 p12 p13 p14)), sl .v (e.Ledger.map (aR p16 p17 p18)), val (vI e.Steps)]), (false, [val (vI i)])] (av [(false, [val (.bool (nM e i))])]) := by
 refine sF Tryz.func243 fun h0 w0 Fz0 => ?_
 refine sn 0 0 fun hl0_0 => ?_
 refine sn 0 3 fun hl0_3 => ?_
 refine sn 0 4 fun hl0_4 => ?_
 refine sn 0 5 fun hl0_5 => ?_
 refine sn 0 6 fun hl0_6 => ?_
 refine fY ?_
 refine ur ?_
 refine qv ?_
 refine dI ?_
 refine cx 9 (fun ga sga => ?_) (fun ga sga => ?_)
 refine jI ?_
 exact DE
 refine rB ga ?_ (x := sM)
 refine rB ga ?_ (x := lF dJ)
 refine rB ga ?_ (x := lD [sl .v _] dm)
 refine rB ga ?_ (x := lN bJ)
 refine rB ga ?_ (x := er)
 refine qA ?_
 refine rA ?_ (x := ay ga)
 refine sc (fun hba => ?_) (fun hba => ?_)
 exact DE
 have hok : aH e = true ∧ aB i 0 (e.Active.length - 1) = true := by first | (simp_all; done) | (simp_all; omega)
 have hin := hok.2
 simp only [aB, Bool.and_eq_true, decide_eq_true_eq] at hin
 have hil : i.toNat < e.Active.length := by omega
 have hgd := cX (d := eX) hil
 refine aN ?_
 refine sS [1, 2, 4] [2] ?_
 refine l6 ?_
 refine rM ?_
 refine rA ?_ (x := aD (k := i.toNat) (by decide) bJ (by exact ⟨⟩) (by first | rfl | omega) (by exact aE hil rfl) (by exact rfl))
 refine rA ?_ (x := lE [val _, val _, sl .v _, sl .v _, val _, sl .v _, val _, val _, val _, sl .v _] eK)
 refine oD ?_
 refine aJ ?_
 refine sO [(1, _), (2, _), (4, _), (5, _)] [(2, _), (5, (108, [val _, val _, sl _ _, sl _ _, val _, sl _ _, val _, val _, val _, sl _ _]))] ?_
 refine aM ?_
 refine rA ?_ (x := lF pi)
 refine nu ?_
 refine cx 26 (fun gb sgb => ?_) (fun gb sgb => ?_)
 refine oQ ?_
 exact DF
 refine rB gb ?_ (x := lF jN)
 refine rB gb ?_ (x := lD [val _] aq)
 refine rB gb ?_ (x := lF pi)
 refine rB gb ?_ (x := lD [val _] aq)
 refine rB gb ?_ (x := cb)
 refine rA ?_ (x := ay gb)
 exact DF
theorem SI {p1 p2 p5 p6 p7 p8 p9 p11 p12 p13 p14 p16 p17 p18 : Fl} {e : am}  (hb : aO e ≤ 68719476736) : aw Tryz.prog 176 [(true, [sl .v (e.Store.Segments.map (ax p1 p2)), val (vI e.Store.Now), val (vI e.Cursor), sl .v (e.Order.map ai), sl .v (e.Active.map (aG p5 p6 p7 p8 p9)), sl .v (e.Done.map (aP p11 p12 p13 p14)), sl .v (e.Ledger.map (aR p16 p17 p18)), val (vI e.Steps)])] (av [(false, [sl (.own 3 1) ((parts e).map ai)])]) := by
 refine sF Tryz.func176 fun h0 w0 Fz0 => ?_
 refine sn 0 0 fun hl0_0 => ?_
 refine sn 0 3 fun hl0_3 => ?_
 refine sn 0 4 fun hl0_4 => ?_
 refine sn 0 5 fun hl0_5 => ?_
 refine sn 0 6 fun hl0_6 => ?_
 refine fY ?_
 refine If ?_
 refine kq ?_
 refine sS [1, 2, 3] [1] ?_
 refine bw ?_
 refine sP [1, 2, 3, 4] [1] ?_
 refine sL [1, 2] [1] (fun k : Nat => k ≤ e.Active.length ∧ (0 < k → aH e = true)) (fun k : Nat => [(3, RV.slc (.own 3 1) ((eA e (e.Active.take k)).map ai)), (4, RV.int (k : Int))]) (fun k : Nat => []) (fun k : Nat => e.Active.length - k) 0 (by exact ⟨by omega, fun h => absurd h (Nat.lt_irrefl 0)⟩) (by exact aI (by exact rfl) (aI (by exact rfl) (tI))) (by exact ⟨⟩) ?_
 rintro k ⟨hk, ha⟩
 refine bu ?_
 refine tG ?_
 refine ll ?_
 refine cx 11 (fun ga sga => ?_) (fun ga sga => ?_)
 refine rB ga ?_ (x := lD [sl .v _, val _, val _, sl .v _, sl .v _, sl .v _, sl .v _, val _] a7)
 refine rB ga ?_ (x := cL [(true, [sl _ _, val _, val _, sl _ _, sl _ _, sl _ _, sl _ _, val _])] [(true, [sl .v _, val _, val _, sl .v _, sl .v _, sl .v _, sl .v _, val _])] rI (hs := by exact (rN (by omega))))
 refine rA ?_ (x := aA ga)
 refine sc (fun hba => ?_) (fun hba => ?_)
 have hok : aH e = true := by simp_all
 have hlt : k < e.Active.length := (by first | omega | (simp_all; done) | (simp_all; omega))
 have haw := Om hok hlt
 have hef := fg hok
 have hpl := yW (e := e) (l := e.Active.take k)
 rw [List.length_take] at hpl
 refine cE ?_
 refine sQ [1, 2, 3, 4] [1] ?_
 refine qG ?_
 refine dA 0 ?_ (x := sM)
 refine dA 3 ?_ (x := cL [(true, [sl _ _, val _, val _, sl _ _, sl _ _, sl _ _, sl _ _, val _]), (false, [val _])] [(true, [sl .v _, val _, val _, sl .v _, sl .v _, sl .v _, sl .v _, val _]), (false, [val _])] PC (hs := by exact (SH (by omega))))
 refine dA 7 ?_ (x := sM)
 refine dx 20 (fun gb sgb => ?_) (fun gb sgb => ?_)
 refine dB 15 gb ?_ (x := lF dJ)
 refine dB 31 gb ?_ (x := lD [sl .v _] dm)
 refine dB 15 gb ?_ (x := sM)
 refine dB 127 gb ?_ (x := aD (by decide) bJ (by exact ⟨⟩) (by exact rfl) (by exact aE (by omega) rfl) (by exact rfl))
 refine dB 255 gb ?_ (x := bl (by decide) gO (by exact nl rfl))
 refine dB 511 gb ?_ (x := lE [sl .v _] aZ)
 refine dB 15 gb ?_ (x := lF gR)
 refine dB 1039 gb ?_ (x := lD [val _] aq)
 refine dB 4095 gb ?_ (x := cL [(false, [sl _ _]), (false, [val _])] [(false, [sl .v _]), (false, [val _])] uA (hs := by exact u5))
 refine dA 8191 ?_ (x := aA gb)
 refine sc (fun hbb => ?_) (fun hbb => ?_)
 have hc : fh e e.Active[k] = true := by simp_all [fh]
 refine sG [1, 2, 3, 4] [1] ?_
 refine rA ?_ (x := tM)
 refine l6 ?_
 refine xH ?_
 refine rA ?_ (x := bl (by decide) eU (by exact nl rfl))
 refine tL ?_
 refine i7 ?_
 exact DG
 exact DH
 refine dF 15 gb ?_
 refine dF 31 gb ?_
 refine dF 15 gb ?_
 refine dF 127 gb ?_
 refine dF 255 gb ?_
 refine dF 511 gb ?_
 refine dF 15 gb ?_
 refine dF 1039 gb ?_
 refine dF 4095 gb ?_
 refine dA 8191 ?_ (x := ay gb)
 refine dk ?_
 exact DH
 exact DI
 refine jJ ?_
 exact DI
theorem Lp {p1 p2 p5 p6 p7 p8 p9 p11 p12 p13 p14 p16 p17 p18 : Fl} {e : am}  (hb : aO e ≤ 68719476736) : aw Tryz.prog 148 [(true, [sl .v (e.Store.Segments.map (ax p1 p2)), val (vI e.Store.Now), val (vI e.Cursor), sl .v (e.Order.map ai), sl .v (e.Active.map (aG p5 p6 p7 p8 p9)), sl .v (e.Done.map (aP p11 p12 p13 p14)), sl .v (e.Ledger.map (aR p16 p17 p18)), val (vI e.Steps)])] (av [(false, [sl (.own 3 1) ((parts e).map ai)])]) := by
 refine sF Tryz.func148 fun h0 w0 Fz0 => ?_
 refine sn 0 0 fun hl0_0 => ?_
 refine sn 0 3 fun hl0_3 => ?_
 refine sn 0 4 fun hl0_4 => ?_
 refine sn 0 5 fun hl0_5 => ?_
 refine sn 0 6 fun hl0_6 => ?_
 refine fY ?_
 refine If ?_
 refine kq ?_
 refine sS [1, 2, 3] [1] ?_
 refine tn ?_
 refine rA ?_ (x := nT)
 refine sc (fun hba => ?_) (fun hba => ?_)
 have hok : aH e = false := by simpa using hba
 refine sS [1, 2, 3] [1] ?_
 refine jG ?_
 exact (aI (by refine bg ?_; rw [Je hok]; rfl) tI)
 have hok : aH e = true := by simpa using hba
 have hef := fg hok
 refine dE ?_
 refine sS [1, 2, 3] [1] ?_
 refine nt ?_
 refine sP [1, 2, 3, 12, 13, 14] [1] ?_
 refine sL [1, 2, 12, 13] [1] (fun k : Nat => k ≤ e.Active.length) (fun k : Nat => [(3, RV.slc (.own 3 1) ((eA e (e.Active.take k)).map ai)), (14, RV.int (k : Int))]) (fun k : Nat => []) (fun k : Nat => e.Active.length - k) 0 (by omega) (by exact aI (by exact rfl) (aI (by exact rfl) (tI))) (by exact ⟨⟩) ?_
 rintro k hk
 refine bG ?_
 refine sc (fun hbb => ?_) (fun hbb => ?_)
 have hlt : k < e.Active.length := by omega
 have hpl := yW (e := e) (l := e.Active.take k)
 rw [List.length_take] at hpl
 refine aT ?_
 refine sT [1, 2, 3, 12, 13, 14] [1] ?_
 refine oE ?_
 refine oD ?_
 refine aJ ?_
 refine sO [(1, _), (2, _), (3, _), (5, _), (12, _), (13, _), (14, _)] [(1, _), (5, (108, [val _, val _, sl _ _, sl _ _, val _, sl _ _, val _, val _, val _, sl _ _]))] ?_
 refine aM ?_
 refine rA ?_ (x := lD [val _, val _, sl .v _, sl .v _, val _, sl .v _, val _, val _, val _, sl .v _] eK)
 refine rA ?_ (x := cL [(true, [val _, val _, sl _ _, sl _ _, val _, sl _ _, val _, val _, val _, sl _ _])] [(true, [val _, val _, sl .v _, sl .v _, val _, sl .v _, val _, val _, val _, sl .v _])] Pr (hs := by exact SG))
 refine rM ?_
 refine cx 20 (fun ga sga => ?_) (fun ga sga => ?_)
 refine rB ga ?_ (x := lF gO)
 refine rB ga ?_ (x := lD [sl .v _] aZ)
 refine qO ?_
 refine rB ga ?_ (x := cL [(false, [sl _ _]), (false, [val _])] [(false, [sl .v _]), (false, [val _])] IB (hs := by exact Kd))
 refine rA ?_ (x := aA ga)
 refine sc (fun hbc => ?_) (fun hbc => ?_)
 have hc : fh e e.Active[k] = true := by simp_all [fh]
 refine sG [1, 2, 3, 5, 12, 13, 14] [1, 5] ?_
 refine rA ?_ (x := tM)
 refine rA ?_ (x := lF eU)
 refine oM ?_
 refine i7 ?_
 exact DJ
 exact DK
 refine jJ ?_
 exact DK
 have hend : k = e.Active.length := by omega
 refine aX ?_
 refine sT [1, 2, 3, 12, 13, 14] [1] ?_
 refine jG ?_
 exact (aI (by refine bg ?_; rw [jp hok, hend, List.take_length]) tI)
theorem Lq {p1 p2 p5 p6 p7 p8 p9 p11 p12 p13 p14 p16 p17 p18 : Fl} {e : am} {id : Int}  : aw Tryz.prog 149 [(true, [sl .v (e.Store.Segments.map (ax p1 p2)), val (vI e.Store.Now), val (vI e.Cursor), sl .v (e.Order.map ai), sl .v (e.Active.map (aG p5 p6 p7 p8 p9)), sl .v (e.Done.map (aP p11 p12 p13 p14)), sl .v (e.Ledger.map (aR p16 p17 p18)), val (vI e.Steps)]), (false, [val (vI id)])] (av [(false, [val (vI (cm e.Active id))])]) := by
 refine sF Tryz.func149 fun h0 w0 Fz0 => ?_
 refine sn 0 0 fun hl0_0 => ?_
 refine sn 0 3 fun hl0_3 => ?_
 refine sn 0 4 fun hl0_4 => ?_
 refine sn 0 5 fun hl0_5 => ?_
 refine sn 0 6 fun hl0_6 => ?_
 refine fY ?_
 refine ur ?_
 refine nt ?_
 refine sP [1, 2, 4, 8, 9, 10] [2] ?_
 refine sL [1, 2, 8, 9] [2] (fun k : Nat => k ≤ e.Active.length ∧ (e.Active.take k).any (cS id) = false) (fun k : Nat => [(10, RV.int (k : Int))]) (fun k : Nat => []) (fun k : Nat => e.Active.length - k) 0 (by exact ⟨by omega, by simp⟩) (by exact aI (by exact rfl) (tI)) (by exact ⟨⟩) ?_
 rintro k ⟨hk, ha⟩
 refine bG ?_
 refine sc (fun hba => ?_) (fun hba => ?_)
 have hlt : k < e.Active.length := by omega
 refine aT ?_
 refine sT [1, 2, 8, 9, 10] [2] ?_
 refine rM ?_
 refine oE ?_
 refine rX ?_ (x := (bB (by decide) fe nH))
 refine rS ?_
 refine GU ?_
 refine sO [(1, _), (2, _), (5, _), (6, _), (8, _), (9, _), (10, _)] [(2, _), (6, (108, [val _, val _, sl _ _, sl _ _, val _, sl _ _, val _, val _, val _, sl _ _]))] ?_
 refine aM ?_
 refine rA ?_ (x := lF eU)
 refine oM ?_
 refine oV ?_
 refine sc (fun hbb => ?_) (fun hbb => ?_)
 have hy : cS id e.Active[k] = true := by first | (simp_all [cS]; done) | simpa [cS] using hbb
 refine sS [1, 2, 5, 6, 8, 9, 10] [2, 6] ?_
 exact DL
 have hno : cS id e.Active[k] = false := by first | (simp_all [cS]; done) | simpa [cS] using hbb
 refine aN ?_
 refine sG [1, 2, 5, 6, 8, 9, 10] [2, 6] ?_
 refine b5 ?_
 exact wS
 have hend : k = e.Active.length := by omega
 rw [hend, List.take_length] at ha
 refine aX ?_
 refine sT [1, 2, 8, 9, 10] [2] ?_
 exact DM
theorem r9 {p1 p2 p5 p6 p7 p8 p9 p11 p12 p13 p14 p16 p17 p18 : Fl} {e : am} {id : Int}  : aw Tryz.prog 177 [(true, [sl .v (e.Store.Segments.map (ax p1 p2)), val (vI e.Store.Now), val (vI e.Cursor), sl .v (e.Order.map ai), sl .v (e.Active.map (aG p5 p6 p7 p8 p9)), sl .v (e.Done.map (aP p11 p12 p13 p14)), sl .v (e.Ledger.map (aR p16 p17 p18)), val (vI e.Steps)]), (false, [val (vI id)])] (av [(false, [val (vI (cm e.Active id))])]) := by
 refine sF Tryz.func177 fun h0 w0 Fz0 => ?_
 refine sn 0 0 fun hl0_0 => ?_
 refine sn 0 3 fun hl0_3 => ?_
 refine sn 0 4 fun hl0_4 => ?_
 refine sn 0 5 fun hl0_5 => ?_
 refine sn 0 6 fun hl0_6 => ?_
 refine fY ?_
 refine ur ?_
 refine bw ?_
 refine sP [1, 2, 4, 5] [2] ?_
 refine sL [1, 2] [2] (fun k : Nat => k ≤ e.Active.length ∧ (e.Active.take k).any (cS id) = false) (fun k : Nat => [(5, RV.int (k : Int))]) (fun k : Nat => []) (fun k : Nat => e.Active.length - k) 0 (by exact ⟨by omega, by simp⟩) (by exact aI (by exact rfl) (tI)) (by exact ⟨⟩) ?_
 rintro k ⟨hk, ha⟩
 refine bu ?_
 refine nk ?_
 refine sc (fun hba => ?_) (fun hba => ?_)
 have hlt : k < e.Active.length := by omega
 refine aT ?_
 refine sT [1, 2, 5] [2] ?_
 refine l6 ?_
 refine xH ?_
 refine rA ?_ (x := bl (by decide) eU (by exact nl rfl))
 refine tL ?_
 refine oV ?_
 refine sc (fun hbb => ?_) (fun hbb => ?_)
 have hy : cS id e.Active[k] = true := by first | (simp_all [cS]; done) | simpa [cS] using hbb
 refine sS [1, 2, 5] [2] ?_
 exact DL
 have hno : cS id e.Active[k] = false := by first | (simp_all [cS]; done) | simpa [cS] using hbb
 refine aN ?_
 refine sG [1, 2, 5] [2] ?_
 exact CP
 have hend : k = e.Active.length := by omega
 rw [hend, List.take_length] at ha
 refine aX ?_
 refine sT [1, 2, 5] [2] ?_
 exact DM
theorem SJ {p1 p2 p5 p6 p7 p8 p9 p11 p12 p13 p14 p16 p17 p18 : Fl} {e : am}  (hok : aH e = true) (hb : aO e ≤ 68719476736) : aw Tryz.prog 73 [(true, [sl .v (e.Store.Segments.map (ax p1 p2)), val (vI e.Store.Now), val (vI e.Cursor), sl .v (e.Order.map ai), sl .v (e.Active.map (aG p5 p6 p7 p8 p9)), sl .v (e.Done.map (aP p11 p12 p13 p14)), sl .v (e.Ledger.map (aR p16 p17 p18)), val (vI e.Steps)])] (av [(true, [sl (.own 52 4) ((eW (eB e.Active (parts e))).Queries.map (cN (.own 178 3) (.own 3 1))), sl (.own 243 1) ((eW (eB e.Active (parts e))).Fields.map (iM (.own 268 3) (.own 3 1)))]), (false, [sl (.own 54 2) ((lG e).map (bn (.own 3 1)))])]) := by
 refine sF Tryz.func73 fun h0 w0 Fz0 => ?_
 refine sn 0 0 fun hl0_0 => ?_
 refine sn 0 3 fun hl0_3 => ?_
 refine sn 0 4 fun hl0_4 => ?_
 refine sn 0 5 fun hl0_5 => ?_
 refine sn 0 6 fun hl0_6 => ?_
 have hef := fg hok
 have hpl := nN (e := e)
 have hcl : e.Cursor.toNat < e.Store.Segments.length := hef.2.2.2.1
 have hws := cR (f := b3) hcl
 have hgd := cX (d := ([] : List aF)) hcl
 rw [hgd] at hws
 have hs4 := (jj hef.1).2.2.2.2.1 _ (List.getElem_mem hcl)
 rw [hgd] at hs4
 have hws2 : b3 (e.Store.Segments.getD e.Cursor.toNat []) = (e.Store.Segments.getD e.Cursor.toNat []).length + ((e.Store.Segments.getD e.Cursor.toNat []).map bZ).sum := rfl
 have hbu := hb
 simp only [aO, cc, fa, aV] at hbu
 refine fY ?_
 refine HX ?_
 refine sT [1, 2, 3] [1, 2] ?_
 refine qC ?_
 refine aJ ?_
 refine sS [1, 2, 3, 4] [1, 2] ?_
 refine rA ?_ (x := lD [sl .v _, val _, val _, sl .v _, sl .v _, sl .v _, sl .v _, val _] a7)
 refine rA ?_ (x := cL [(true, [sl _ _, val _, val _, sl _ _, sl _ _, sl _ _, sl _ _, val _])] [(true, [sl .v _, val _, val _, sl .v _, sl .v _, sl .v _, sl .v _, val _])] JE (hs := by exact (Lp (by omega))))
 refine rA ?_ (x := lN a3)
 refine cj ?_
 refine sP [1, 2, 3, 4, 12, 13, 14] [1, 2] ?_
 refine sL [1, 2, 3, 12, 13] [1, 2] (fun k : Nat => k ≤ (parts e).length) (fun k : Nat => [(4, RV.slc (.own 52 4) ((eB e.Active ((parts e).take k)).map (cN .v .v))), (14, RV.int (k : Int))]) (fun k : Nat => []) (fun k : Nat => (parts e).length - k) 0 (by omega) (by exact aI (by exact rfl) (aI (by exact rfl) (tI))) (by exact ⟨⟩) ?_
 rintro k hk
 refine bG ?_
 refine sc (fun hba => ?_) (fun hba => ?_)
 have hlt : k < (parts e).length := by omega
 have hpk : (parts e)[k] ∈ eA e e.Active := by rw [← jp hok]; exact List.getElem_mem hlt
 have hfp := yY hpk
 have hql : (eB e.Active ((parts e).take k)).length = k := by unfold eB; rw [List.length_map, List.length_take]; omega
 refine aT ?_
 refine sT [1, 2, 3, 4, 12, 13, 14] [1, 2] ?_
 refine kt ?_
 refine sP [1, 2, 3, 4, 6, 12, 13, 14] [1, 2] ?_
 refine nc ?_
 refine tY ?_
 refine H6 ?_
 refine dA 24 ?_ (x := cL [(true, [sl _ _, val _, val _, sl _ _, sl _ _, sl _ _, sl _ _, val _]), (false, [val _])] [(true, [sl .v _, val _, val _, sl .v _, sl .v _, sl .v _, sl .v _, val _]), (false, [val _])] JF (hs := by exact Lq))
 refine dA 62 ?_ (x := aD (k := (cm e.Active (parts e)[k]).toNat) (by decide) bJ (by exact ⟨⟩) (by omega) (by exact aE hfp.2 (by rw [cX (d := eX) hfp.2])) (by exact rfl))
 refine dA 126 ?_ (x := bl (by decide) eU (by exact nl rfl))
 refine dA 254 ?_ (x := lE [val _, val _, sl .v _, sl .v _] dp)
 refine dA 510 ?_ (x := bd (qs := [(true, [val _, val _, sl _ _, sl _ _])]) (by decide) gj gx (by decide) rfl rfl rfl rfl rfl (by exact nl rfl) (by exact (aI (by exact ⟨⟩) tI)) rfl)
 refine dA 1023 ?_ (x := c8 (by decide) gj gx rfl rfl (by decide) rfl (by simp only [List.length_map, List.length_append, List.length_cons, List.length_nil]; omega) (by simp only [List.length_map, List.length_append, List.length_cons, List.length_nil]; omega))
 refine dA 2047 ?_ (x := tA)
 refine sG [1, 2, 3, 4, 6, 12, 13, 14] [1, 2] ?_
 refine b5 ?_
 exact DN
 have hend : k = (parts e).length := by omega
 rw [hend, List.take_length]
 refine aX ?_
 refine sT [1, 2, 3, 4, 12, 13, 14] [1, 2] ?_
 refine oI ?_
 refine aJ ?_
 refine sS [1, 2, 3, 4, 7, 12, 13, 14] [1, 2] ?_
 refine rA ?_ (x := lF ee)
 refine tk ?_
 refine rA ?_ (x := lF gR)
 refine xp ?_
 refine rA ?_ (x := lE [sl .v _] f7)
 refine rA ?_ (x := lN bT)
 refine cj ?_
 refine sP [1, 2, 3, 4, 7, 12, 13, 14, 37, 38, 39] [1, 2] ?_
 refine sL [1, 2, 3, 4, 12, 13, 14, 37, 38] [1, 2] (fun k : Nat => k ≤ (e.Store.Segments.getD e.Cursor.toNat []).length) (fun k : Nat => [(7, RV.slc (.own 54 2) ((((e.Store.Segments.getD e.Cursor.toNat []).take k).map dr).map (bn (.own 3 1)))), (39, RV.int (k : Int))]) (fun k : Nat => []) (fun k : Nat => (e.Store.Segments.getD e.Cursor.toNat []).length - k) 0 (by omega) (by exact aI (by exact rfl) (aI (by exact rfl) (tI))) (by exact ⟨⟩) ?_
 rintro k hk
 refine bG ?_
 refine sc (fun hbb => ?_) (fun hbb => ?_)
 have hlt : k < (e.Store.Segments.getD e.Cursor.toNat []).length := by omega
 have hwm2 := cR (f := bZ) hlt
 have hrl : (((e.Store.Segments.getD e.Cursor.toNat []).take k).map dr).length = k := by rw [List.length_map, List.length_take]; omega
 have hrl2 : ((e.Store.Segments.getD e.Cursor.toNat []).take k).length = k := by rw [List.length_take]; omega
 refine aT ?_
 refine sT [1, 2, 3, 4, 7, 12, 13, 14, 37, 38, 39] [1, 2] ?_
 refine tx ?_
 refine oG ?_
 refine sO [(1, _), (2, _), (3, _), (4, _), (7, _), (9, _), (12, _), (13, _), (14, _), (37, _), (38, _), (39, _)] [(1, _), (2, _), (9, (184, [val _, sl _ _, val _, val _]))] ?_
 refine aM ?_
 refine rA ?_ (x := tM)
 refine xq ?_
 refine oB ?_
 refine rA ?_ (x := tA)
 refine sG [1, 2, 3, 4, 7, 9, 12, 13, 14, 37, 38, 39] [1, 2, 9] ?_
 refine b5 ?_
 exact DO
 have hend : k = (e.Store.Segments.getD e.Cursor.toNat []).length := by omega
 rw [hend, List.take_length]
 refine aX ?_
 refine sT [1, 2, 3, 4, 7, 12, 13, 14, 37, 38, 39] [1, 2] ?_
 refine rA ?_ (x := vM false [sl .v _])
 refine rA ?_ (x := cL [(false, [sl _ _])] [(false, [sl .v _])] Pg (hs := by exact QU))
 exact DP
theorem SK {p1 p2 p5 p6 p7 p8 p9 p11 p12 p13 p14 p16 p17 p18 : Fl} {e : am}  (hok : aH e = true) (hb : aO e ≤ 68719476736) : aw Tryz.prog 75 [(true, [sl .v (e.Store.Segments.map (ax p1 p2)), val (vI e.Store.Now), val (vI e.Cursor), sl .v (e.Order.map ai), sl .v (e.Active.map (aG p5 p6 p7 p8 p9)), sl .v (e.Done.map (aP p11 p12 p13 p14)), sl .v (e.Ledger.map (aR p16 p17 p18)), val (vI e.Steps)])] (av [(true, [sl (.own 52 4) ((eW (eB e.Active (parts e))).Queries.map (cN (.own 178 3) (.own 3 1))), sl (.own 243 1) ((eW (eB e.Active (parts e))).Fields.map (iM (.own 268 3) (.own 3 1)))]), (false, [sl (.own 54 2) ((lG e).map (bn .v))])]) := by
 refine sF Tryz.func75 fun h0 w0 Fz0 => ?_
 refine sn 0 0 fun hl0_0 => ?_
 refine sn 0 3 fun hl0_3 => ?_
 refine sn 0 4 fun hl0_4 => ?_
 refine sn 0 5 fun hl0_5 => ?_
 refine sn 0 6 fun hl0_6 => ?_
 have hef := fg hok
 have hpl := nN (e := e)
 have hcl : e.Cursor.toNat < e.Store.Segments.length := hef.2.2.2.1
 have hws := cR (f := b3) hcl
 have hgd := cX (d := ([] : List aF)) hcl
 rw [hgd] at hws
 have hs4 := (jj hef.1).2.2.2.2.1 _ (List.getElem_mem hcl)
 rw [hgd] at hs4
 have hws2 : b3 (e.Store.Segments.getD e.Cursor.toNat []) = (e.Store.Segments.getD e.Cursor.toNat []).length + ((e.Store.Segments.getD e.Cursor.toNat []).map bZ).sum := rfl
 have hbu := hb
 simp only [aO, cc, fa, aV] at hbu
 refine fY ?_
 refine HX ?_
 refine sT [1, 2, 3] [1, 2] ?_
 refine qC ?_
 refine sS [1, 2, 3, 4] [1, 2] ?_
 refine FY ?_
 refine i6 ?_
 refine sS [1, 2, 3, 4, 5] [1, 2] ?_
 refine bw ?_
 refine sP [1, 2, 3, 4, 5, 6] [1, 2] ?_
 refine sL [1, 2, 3, 5] [1, 2] (fun k : Nat => k ≤ (parts e).length) (fun k : Nat => [(4, RV.slc (.own 52 4) ((eB e.Active ((parts e).take k)).map (cN .v .v))), (6, RV.int (k : Int))]) (fun k : Nat => []) (fun k : Nat => (parts e).length - k) 0 (by omega) (by exact aI (by exact rfl) (aI (by exact rfl) (tI))) (by exact ⟨⟩) ?_
 rintro k hk
 refine iK ?_
 refine sc (fun hba => ?_) (fun hba => ?_)
 have hlt : k < (parts e).length := by omega
 have hpk : (parts e)[k] ∈ eA e e.Active := by rw [← jp hok]; exact List.getElem_mem hlt
 have hfp := yY hpk
 have hql : (eB e.Active ((parts e).take k)).length = k := by unfold eB; rw [List.length_map, List.length_take]; omega
 refine aT ?_
 refine sQ [1, 2, 3, 4, 5, 6] [1, 2] ?_
 refine nc ?_
 refine tY ?_
 refine dA 0 ?_ (x := lD [sl .v _, val _, val _, sl .v _, sl .v _, sl .v _, sl .v _, val _] a7)
 refine dG ?_
 refine tF ?_
 refine dA 248 ?_ (x := cL [(true, [sl _ _, val _, val _, sl _ _, sl _ _, sl _ _, sl _ _, val _]), (false, [val _])] [(true, [sl .v _, val _, val _, sl .v _, sl .v _, sl .v _, sl .v _, val _]), (false, [val _])] rL (hs := by exact r9))
 refine dA 510 ?_ (x := aD (k := (cm e.Active (parts e)[k]).toNat) (by decide) bJ (by exact ⟨⟩) (by omega) (by exact aE hfp.2 (by rw [cX (d := eX) hfp.2])) (by exact rfl))
 refine dA 1022 ?_ (x := bl (by decide) eU (by exact nl rfl))
 refine dA 2046 ?_ (x := lE [val _, val _, sl .v _, sl .v _] dp)
 refine dA 4094 ?_ (x := bd (qs := [(true, [val _, val _, sl _ _, sl _ _])]) (by decide) gj gx (by decide) rfl rfl rfl rfl rfl (by exact nl rfl) (by exact (aI (by exact ⟨⟩) tI)) rfl)
 refine dA 8191 ?_ (x := c8 (by decide) gj gx rfl rfl (by decide) rfl (by simp only [List.length_map, List.length_append, List.length_cons, List.length_nil]; omega) (by simp only [List.length_map, List.length_append, List.length_cons, List.length_nil]; omega))
 refine dA 16383 ?_ (x := tA)
 refine sG [1, 2, 3, 4, 5, 6] [1, 2] ?_
 exact DQ
 have hend : k = (parts e).length := by omega
 rw [hend, List.take_length]
 refine aX ?_
 refine sT [1, 2, 3, 4, 5, 6] [1, 2] ?_
 refine oI ?_
 refine sS [1, 2, 3, 4, 5, 6, 7] [1, 2] ?_
 refine rA ?_ (x := lF ee)
 refine tk ?_
 refine rA ?_ (x := lF gR)
 refine xp ?_
 refine rA ?_ (x := lE [sl .v _] f7)
 refine t6 ?_
 refine sS [1, 2, 3, 4, 5, 6, 7, 8] [1, 2] ?_
 refine bw ?_
 refine sP [1, 2, 3, 4, 5, 6, 7, 8, 9] [1, 2] ?_
 refine sL [1, 2, 3, 4, 5, 6, 8] [1, 2] (fun k : Nat => k ≤ (e.Store.Segments.getD e.Cursor.toNat []).length) (fun k : Nat => [(7, RV.slc (.own 54 2) ((((e.Store.Segments.getD e.Cursor.toNat []).take k).map dr).map (bn .v))), (9, RV.int (k : Int))]) (fun k : Nat => []) (fun k : Nat => (e.Store.Segments.getD e.Cursor.toNat []).length - k) 0 (by omega) (by exact aI (by exact rfl) (aI (by exact rfl) (tI))) (by exact ⟨⟩) ?_
 rintro k hk
 refine bu ?_
 refine uu ?_
 refine sc (fun hbb => ?_) (fun hbb => ?_)
 have hlt : k < (e.Store.Segments.getD e.Cursor.toNat []).length := by omega
 have hwm2 := cR (f := bZ) hlt
 have hrl : (((e.Store.Segments.getD e.Cursor.toNat []).take k).map dr).length = k := by rw [List.length_map, List.length_take]; omega
 have hrl2 : ((e.Store.Segments.getD e.Cursor.toNat []).take k).length = k := by rw [List.length_take]; omega
 refine aT ?_
 refine sQ [1, 2, 3, 4, 5, 6, 7, 8, 9] [1, 2] ?_
 refine nc ?_
 refine dG ?_
 refine GR ?_
 refine yz ?_
 refine GQ ?_
 refine dA 960 ?_ (x := lE [sl .v _] aZ)
 refine dA 2046 ?_ (x := cv (qs := [(false, [val _]), (false, [sl _ _])]) (cs := [val _, sl _ _]) (by decide) ff iQ SF (by exact rfl) (by exact (aI (by exact ⟨⟩) (aI (by exact ⟨⟩) tI))) rfl (by exact rfl))
 refine dA 4094 ?_ (x := bd (qs := [(true, [val _, sl _ _])]) (by decide) fu ff (by decide) rfl rfl rfl rfl rfl (by exact nl rfl) (by exact (aI (by exact ⟨⟩) tI)) rfl)
 refine dA 8191 ?_ (x := c8 (by decide) fu ff rfl rfl (by decide) rfl (by simp only [List.length_map, List.length_append, List.length_cons, List.length_nil]; omega) (by simp only [List.length_map, List.length_append, List.length_cons, List.length_nil]; omega))
 refine dA 16383 ?_ (x := tA)
 refine sG [1, 2, 3, 4, 5, 6, 7, 8, 9] [1, 2] ?_
 refine bF ?_
 exact DO
 have hend : k = (e.Store.Segments.getD e.Cursor.toNat []).length := by omega
 rw [hend, List.take_length]
 refine aX ?_
 refine sT [1, 2, 3, 4, 5, 6, 7, 8, 9] [1, 2] ?_
 refine HV ?_
 exact DP
theorem Ao {p1 p2 p4 p5 p7 : Fl} {x : bS} {l : List Row} {o : List Int}  (hl : l.length ≤ 1048576) : aw Tryz.prog 74 [(true, [sl .v (x.Queries.map (cN p1 p2)), sl .v (x.Fields.map (iM p4 p5))]), (false, [sl .v (l.map (bn p7))]), (false, [sl .v (o.map ai)])] (av [(false, [val (vI (dR x l o))])]) := by
 refine sF Tryz.func74 fun h0 w0 Fz0 => ?_
 refine sn 0 0 fun hl0_0 => ?_
 refine sn 0 1 fun hl0_1 => ?_
 refine sj 1 fun hl1 => ?_
 refine sj 2 fun hl2 => ?_
 refine l9 ?_
 refine rK ?_
 refine sT [1, 2, 3, 6] [3] ?_
 refine eS ?_
 refine sS [1, 2, 3, 6, 7] [3] ?_
 refine Hs ?_
 refine dI ?_
 refine cx 15 (fun ga sga => ?_) (fun ga sga => ?_)
 refine jI ?_
 exact DR
 refine HS ?_
 refine oO ?_
 refine sc (fun hba => ?_) (fun hba => ?_)
 exact DR
 have hxo : (cy x && bK o) = true := by simp_all
 obtain ⟨hx, ho⟩ := Bool.and_eq_true_iff.1 hxo
 refine dE ?_
 refine sS [1, 2, 3, 6, 7] [3] ?_
 refine ki ?_
 refine cj ?_
 refine sP [1, 2, 3, 6, 7, 21, 22, 23] [3] ?_
 refine sL [1, 2, 3, 6, 21, 22] [3] (fun k : Nat => k ≤ l.length) (fun k : Nat => [(7, RV.int (jV x o (l.take k))), (23, RV.int (k : Int))]) (fun k : Nat => []) (fun k : Nat => l.length - k) 0 (by omega) (by exact aI (by exact rfl) (aI (by exact rfl) (tI))) (by exact ⟨⟩) ?_
 rintro k hk
 refine bG ?_
 refine sc (fun hbb => ?_) (fun hbb => ?_)
 have hlt : k < l.length := by omega
 have hwl := y1 hx ho (l.take k)
 rw [List.length_take] at hwl
 have hw1 := yZ hx ho l[k]
 refine aT ?_
 refine sT [1, 2, 3, 6, 7, 21, 22, 23] [3] ?_
 refine qx ?_
 refine tD ?_
 refine aJ ?_
 refine sO [(1, _), (2, _), (3, _), (6, _), (7, _), (9, _), (21, _), (22, _), (23, _)] [(3, _), (9, (54, [val _, sl _ _]))] ?_
 refine aM ?_
 refine Hx ?_
 refine sc (fun hbc => ?_) (fun hbc => ?_)
 have hr : bm l[k] = true := by simpa using hbc
 have hwo : lH x o l[k] = (gV x l[k] o).2 := if_pos hr
 refine sS [1, 2, 3, 6, 7, 9, 21, 22, 23] [3, 9] ?_
 refine rA ?_ (x := lD [sl .v _, sl .v _] iT)
 refine rA ?_ (x := lD [val _, sl .v _] ew)
 refine rA ?_ (x := vM false [sl .v _])
 refine rA ?_ (x := cL [(true, [sl _ _, sl _ _]), (true, [val _, sl _ _]), (false, [sl _ _])] [(true, [sl .v _, sl .v _]), (true, [val _, sl .v _]), (false, [sl .v _])] Pi (hs := by exact (QW (x := x) (r := l[k]) (o := o) hx hr ho)))
 refine rA ?_ (x := tM)
 refine rA ?_ (x := pT (cs := [sl _ _]) (qs := [sl .v _]) (by decide) (by exact rfl) (by exact (ab.cons PV.to_none ab.nil)) (by exact (ae.cons (bor_sl _) ae.nil)))
 refine rA ?_ (x := gF (cs := [val _]) (by decide) (by exact rfl) (by exact (ae.cons (bor_val _) ae.nil)))
 refine rA ?_ (x := tA)
 refine rS ?_
 refine sG [1, 2, 3, 6, 7, 9, 10, 11, 21, 22, 23] [3, 9] ?_
 refine rM ?_
 refine bF ?_
 refine sG [1, 2, 3, 6, 7, 9, 10, 11, 21, 22, 23] [3, 9] ?_
 exact DS
 have hr : bm l[k] = false := by simpa using hbc
 have hwo : lH x o l[k] = 0 := if_neg (by rw [hr]; simp)
 refine aN ?_
 refine sG [1, 2, 3, 6, 7, 9, 21, 22, 23] [3, 9] ?_
 exact DS
 have hend : k = l.length := by omega
 refine aX ?_
 refine sT [1, 2, 3, 6, 7, 21, 22, 23] [3] ?_
 refine nw ?_
 exact (aI (by refine bf ?_; rw [hend, List.take_length]; exact (if_pos hxo).symm) tI)
theorem Lr {p1 p2 p4 p5 p7 : Fl} {x : bS} {l : List Row} {o : List Int}  (hl : l.length ≤ 1048576) : aw Tryz.prog 76 [(true, [sl .v (x.Queries.map (cN p1 p2)), sl .v (x.Fields.map (iM p4 p5))]), (false, [sl .v (l.map (bn p7))]), (false, [sl .v (o.map ai)])] (av [(false, [val (vI (dR x l o))])]) := by
 refine sF Tryz.func76 fun h0 w0 Fz0 => ?_
 refine sn 0 0 fun hl0_0 => ?_
 refine sn 0 1 fun hl0_1 => ?_
 refine sj 1 fun hl1 => ?_
 refine sj 2 fun hl2 => ?_
 refine l9 ?_
 refine rK ?_
 refine sT [1, 2, 3, 6] [3] ?_
 refine eS ?_
 refine sS [1, 2, 3, 6, 7] [3] ?_
 refine bw ?_
 refine sP [1, 2, 3, 6, 7, 8] [3] ?_
 refine sL [1, 2, 3, 6] [3] (fun k : Nat => k ≤ l.length ∧ (0 < k → (cy x && bK o) = true)) (fun k : Nat => [(7, RV.int (jV x o (l.take k))), (8, RV.int (k : Int))]) (fun k : Nat => []) (fun k : Nat => l.length - k) 0 (by exact ⟨by omega, fun h => absurd h (Nat.lt_irrefl 0)⟩) (by exact aI (by exact rfl) (aI (by exact rfl) (tI))) (by exact ⟨⟩) ?_
 rintro k ⟨hk, ha⟩
 refine bu ?_
 refine ki ?_
 refine ll ?_
 refine cx 15 (fun ga sga => ?_) (fun ga sga => ?_)
 refine Hm ?_
 refine rj ?_
 refine cx 19 (fun gb sgb => ?_) (fun gb sgb => ?_)
 refine rB gb ?_ (x := vM false [sl .v _])
 refine rB gb ?_ (x := cL [(false, [sl _ _])] [(false, [sl .v _])] zh (hs := by exact zw))
 refine rA ?_ (x := aA gb)
 refine sc (fun hba => ?_) (fun hba => ?_)
 have hxo : (cy x && bK o) = true := by simp_all
 obtain ⟨hx, ho⟩ := Bool.and_eq_true_iff.1 hxo
 have hlt : k < l.length := (by first | omega | (simp_all; done) | (simp_all; omega))
 have hwl := y1 hx ho (l.take k)
 rw [List.length_take] at hwl
 have hw1 := yZ hx ho l[k]
 refine aT ?_
 refine sT [1, 2, 3, 6, 7, 8] [3] ?_
 refine i4 ?_
 refine H4 ?_
 refine sc (fun hbb => ?_) (fun hbb => ?_)
 have hr : bm l[k] = true := by simpa using hbb
 have hwo : lH x o l[k] = (gV x l[k] o).2 := if_pos hr
 refine aJ ?_
 refine sP [1, 2, 3, 6, 7, 8] [3] ?_
 refine FN ?_
 refine dX 0 ?_ (x := (eG (r' := RV.sv false [sl .v _]) (.inl rfl) (by decide) (by exact Cp.sv (ab.cons PV.to_none ab.nil) (ae.cons (bor_sl _) ae.nil))))
 refine dX 0 ?_ (x := (eG (.inl rfl) (by decide) (by exact Cp.sc)))
 refine dX 6 ?_ (x := (aD (by decide) fu (by exact ⟨⟩) (by exact rfl) (by exact aE (by omega) rfl) (by exact rfl)))
 refine dX 14 ?_ (x := (kc (qs := [val _, sl .v _]) (by decide) ew (fun h => nomatch h) (by exact nl rfl) (by exact (ab.cons (PV.To.refl _) (ab.cons PV.to_none ab.nil))) (by exact (ae.cons (bor_val _) (ae.cons (bor_sl _) ae.nil)))))
 refine dX 0 ?_ (x := (eG (r' := RV.sv false [sl .v _]) (.inl rfl) (by decide) (by exact Cp.sv (ab.cons PV.to_none ab.nil) (ae.cons (bor_sl _) ae.nil))))
 refine jy (G := 2000) (qs := [(true, [sl _ _, sl _ _]), (true, [val _, sl _ _]), (false, [sl _ _])]) (as_ := [(true, [sl .v _, sl .v _]), (true, [val _, sl .v _]), (false, [sl .v _])]) (by decide) JH (by exact ⟨rfl, rfl, rfl, ⟨⟩⟩) (by exact (aI (by exact ⟨⟩) (aI (by exact ⟨⟩) (aI (by exact ⟨⟩) tI)))) (by exact (aI (aI rfl (ab.cons PV.to_none (ab.cons PV.to_none ab.nil))) (aI (aI rfl (ab.cons (PV.To.refl _) (ab.cons PV.to_none ab.nil))) (aI (aI rfl (ab.cons PV.to_none ab.nil)) tI)))) (by exact (Kr (x := x) (r := l[k]) (o := o) hx hr ho)) (by kernel_rfl) (by kernel_rfl) fun uss hU0 => ?_
 obtain ⟨us0, r0, rfl, hl0, hR0, hU1⟩ := ct.cons hU0
 obtain ⟨u5_0_0, rfl⟩ := i9 hl0
 obtain ⟨us1, r1, rfl, hl1, hR1, hU2⟩ := ct.cons hU1
 obtain ⟨u5_1_0, rfl⟩ := i9 hl1
 obtain rfl := dc hR1 (j := 0) rfl rfl
 obtain rfl := ct.nil hU2
 clear hR0 hU0 hR1 hU1 hU2
 refine Gu ?_
 refine Fv ?_
 refine oj (s := 9) (G := 2000) (by exact rfl) (by exact (Nm.val Nm.nil)) rfl (by decide) (by exact rfl) ?_
 refine oj (s := 10) (G := 2001) (by exact rfl) (by exact (Nm.val Nm.nil)) rfl (by decide) (by exact rfl) ?_
 refine sG [1, 2, 3, 6, 7, 8, 9, 10] [3] ?_
 refine rM ?_
 refine bF ?_
 refine sG [1, 2, 3, 6, 7, 8, 9, 10] [3] ?_
 exact DT
 have hr : bm l[k] = false := by simpa using hbb
 have hwo : lH x o l[k] = 0 := if_neg (by rw [hr]; simp)
 refine aN ?_
 refine sG [1, 2, 3, 6, 7, 8] [3] ?_
 exact DT
 exact wZ
 refine nd ?_
 refine dk ?_
 exact wZ
 refine ii ?_
 refine an.cases (s := 19) rfl (fun g7 => nomatch g7) (fun g7 => ?_)
 refine re ?_
 refine dk ?_
 exact wZ
theorem sa {p1 p2 p5 p6 p7 p8 p9 p11 p12 p13 p14 p16 p17 p18 : Fl} {e : am}  (hb : aO e ≤ 68719476736) : aw Tryz.prog 17 [(true, [sl .v (e.Store.Segments.map (ax p1 p2)), val (vI e.Store.Now), val (vI e.Cursor), sl .v (e.Order.map ai), sl .v (e.Active.map (aG p5 p6 p7 p8 p9)), sl .v (e.Done.map (aP p11 p12 p13 p14)), sl .v (e.Ledger.map (aR p16 p17 p18)), val (vI e.Steps)])] (av [(false, [val (vI (nO e))])]) := by
 refine sF Tryz.func17 fun h0 w0 Fz0 => ?_
 refine sn 0 0 fun hl0_0 => ?_
 refine sn 0 3 fun hl0_3 => ?_
 refine sn 0 4 fun hl0_4 => ?_
 refine sn 0 5 fun hl0_5 => ?_
 refine sn 0 6 fun hl0_6 => ?_
 refine fY ?_
 refine ie ?_
 refine tn ?_
 refine rA ?_ (x := nT)
 refine sc (fun hba => ?_) (fun hba => ?_)
 exact DU
 have hok : aH e = true := by simpa using hba
 have hrl := uQ hok
 refine aN ?_
 refine tK ?_
 refine Gg ?_
 refine tl ?_
 refine mX ?_
 refine i6 ?_
 refine tO ?_
 refine tR ?_
 refine yh ?_
 refine rA ?_ (x := cL [(true, [sl _ _, sl _ _]), (false, [sl _ _]), (false, [sl _ _])] [(true, [sl .v _, sl .v _]), (false, [sl .v _]), (false, [sl .v _])] zj (hs := by exact (Ao (by omega))))
 exact DV
theorem SL {p1 p2 p5 p6 p7 p8 p9 p11 p12 p13 p14 p16 p17 p18 : Fl} {e : am}  (hb : aO e ≤ 68719476736) : aw Tryz.prog 18 [(true, [sl .v (e.Store.Segments.map (ax p1 p2)), val (vI e.Store.Now), val (vI e.Cursor), sl .v (e.Order.map ai), sl .v (e.Active.map (aG p5 p6 p7 p8 p9)), sl .v (e.Done.map (aP p11 p12 p13 p14)), sl .v (e.Ledger.map (aR p16 p17 p18)), val (vI e.Steps)])] (av [(false, [val (vI (nO e))])]) := by
 refine sF Tryz.func18 fun h0 w0 Fz0 => ?_
 refine sn 0 0 fun hl0_0 => ?_
 refine sn 0 3 fun hl0_3 => ?_
 refine sn 0 4 fun hl0_4 => ?_
 refine sn 0 5 fun hl0_5 => ?_
 refine sn 0 6 fun hl0_6 => ?_
 refine fY ?_
 refine ie ?_
 refine qv ?_
 refine rA ?_ (x := nT)
 refine sc (fun hba => ?_) (fun hba => ?_)
 exact DU
 have hok : aH e = true := by simpa using hba
 have hrl := uQ hok
 refine aN ?_
 refine tK ?_
 refine Gh ?_
 refine tl ?_
 refine mX ?_
 refine i6 ?_
 refine tO ?_
 refine tR ?_
 refine yh ?_
 refine rA ?_ (x := cL [(true, [sl _ _, sl _ _]), (false, [sl _ _]), (false, [sl _ _])] [(true, [sl .v _, sl .v _]), (false, [sl .v _]), (false, [sl .v _])] J2 (hs := by exact (Lr (by omega))))
 exact DV
end Go.Proofs.YtmekkgdboplbjaaGreat
