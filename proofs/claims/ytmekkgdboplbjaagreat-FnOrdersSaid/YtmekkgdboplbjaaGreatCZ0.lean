/- What functions of the program compute. No condition. -/
import Derived.Test.YtmekkgdboplbjaaGreatCV0
set_option linter.unusedVariables false
set_option linter.unusedSimpArgs false
namespace Go.Proofs.YtmekkgdboplbjaaGreat
open Go Go.RowKit M PV
set_option maxRecDepth 10000
attribute [local irreducible] PV.Lcl PV.LclR RV.Lcl
theorem Lu  : aw Tryz.prog 181 [] (av [(false, [sl (.own 27 1) (bi.map (ND (.own 3 1)))])]) := by
 refine sF Tryz.func181 fun h0 w0 Fz0 => ?_
 refine sR ?_
 refine rA ?_ (x := fj (.inr rfl) (by decide) (fR (t := 27) (e := 1)))
 refine sS [0] [] ?_
 refine oA ?_
 refine oA ?_
 refine oA ?_
 refine FJ ?_
 exact qi
theorem SV {p1 p2 p4 p5 p7 : Fl} {x : bS} {l : List Row}  (hl : l.length ≤ 1048576) : aw Tryz.prog 77 [(true, [sl .v (x.Queries.map (cN p1 p2)), sl .v (x.Fields.map (iM p4 p5))]), (false, [sl .v (l.map (bn p7))])] (av [(false, [sl .v ((kH x l).map ai)])]) := by
 refine sF Tryz.func77 fun h0 w0 Fz0 => ?_
 refine sn 0 0 fun hl0_0 => ?_
 refine sn 0 1 fun hl0_1 => ?_
 refine sj 1 fun hl1 => ?_
 have hO6 : bi.length = 6 := rfl
 refine l9 ?_
 refine tP ?_
 refine sT [1, 2, 4] [2] ?_
 refine Hs ?_
 refine rA ?_ (x := nT)
 refine sc (fun hba => ?_) (fun hba => ?_)
 have hok : cy x = false := by simpa using hba
 refine sS [1, 2, 4] [2] ?_
 refine rA ?_ (x := fj (.inr rfl) (by decide) (fR (t := 3) (e := 1)))
 refine mP (s := 4) [sl _ _] (by exact rfl) (by exact (ab.cons PV.to_none ab.nil)) (by exact (ae.cons (bor_sl _) ae.nil)) ?_
 refine bY ?_
 exact (aI (by refine bg ?_; unfold kH; rw [if_neg (by rw [hok]; simp)]; rfl) tI)
 have hok : cy x = true := by simpa using hba
 refine aN ?_
 refine sS [1, 2, 4] [2] ?_
 refine oA ?_
 refine oA ?_
 refine oA ?_
 refine FJ ?_
 refine aJ ?_
 refine sP [1, 2, 4, 5] [2] ?_
 refine mP (s := 5) [sl .v (bi.map fun z => [sl (.own 3 1) (z.map ai)])] (by exact rfl) (by exact (ab.cons (Jg rfl) ab.nil)) (by exact (ae.cons (bor_sl _) ae.nil)) ?_
 refine sG [1, 2, 4, 5] [2] ?_
 refine rA ?_ (x := vM false [sl .v _])
 refine rA ?_ (x := aD (k := 0) (by decide) nS (aY rfl) (by rfl) (by exact aE (by decide) rfl) (by exact rfl))
 refine rA ?_ (x := lE [sl .v _] aZ)
 refine t6 ?_
 refine sS [1, 2, 4, 5, 6] [2] ?_
 refine rA ?_ (x := vM false [sl .v _])
 refine rA ?_ (x := lN nS)
 refine cj ?_
 refine sP [1, 2, 4, 5, 6, 22, 23, 24] [2] ?_
 refine sL [1, 2, 4, 5, 22, 23] [2] (fun k : Nat => k ≤ bi.length) (fun k : Nat => [(6, RV.sv false [sl .v ((eM x l k).map ai)]), (24, RV.int (k : Int))]) (fun k : Nat => []) (fun k : Nat => bi.length - k) 0 (by omega) (by exact aI (by exact rfl) (aI (by exact rfl) (tI))) (by exact ⟨⟩) ?_
 rintro k hk
 refine bG ?_
 refine sc (fun hbb => ?_) (fun hbb => ?_)
 have hlt : k < bi.length := by show k < 6; omega
 have ho3 := uR hlt
 refine aT ?_
 refine sT [1, 2, 4, 5, 6, 22, 23, 24] [2] ?_
 refine Ho ?_
 refine t6 ?_
 refine sP [1, 2, 4, 5, 6, 8, 22, 23, 24] [2] ?_
 refine b9 bP ?_
 refine xN ?_
 refine dA 0 ?_ (x := vM false [sl .v _])
 refine dA 7 ?_ (x := cL [(true, [sl _ _, sl _ _]), (false, [sl _ _]), (false, [sl _ _])] [(true, [sl .v _, sl .v _]), (false, [sl .v _]), (false, [sl .v _])] zj (hs := by exact (Ao (by omega))))
 refine xN ?_
 refine dA 0 ?_ (x := vM false [sl .v _])
 refine dA 127 ?_ (x := cL [(true, [sl _ _, sl _ _]), (false, [sl _ _]), (false, [sl _ _])] [(true, [sl .v _, sl .v _]), (false, [sl .v _]), (false, [sl .v _])] zj (hs := by exact (Ao (by omega))))
 refine dA 255 ?_ (x := cb)
 refine sc (fun hbc => ?_) (fun hbc => ?_)
 have hc := hbc
 refine sG [1, 2, 4, 5, 6, 8, 22, 23, 24] [2] ?_
 refine xP ?_
 exact Ea
 have hc := hbc
 refine aN ?_
 exact Ea
 have hend : k = 6 := by omega
 refine aX ?_
 refine sT [1, 2, 4, 5, 6, 22, 23, 24] [2] ?_
 refine xP ?_
 refine bY ?_
 exact (aI (by refine bg ?_; unfold kH; rw [if_pos hok, ← hend]) tI)
theorem SX {p1 p2 p4 p5 p7 : Fl} {x : bS} {l : List Row}  (hl : l.length ≤ 1048576) : aw Tryz.prog 78 [(true, [sl .v (x.Queries.map (cN p1 p2)), sl .v (x.Fields.map (iM p4 p5))]), (false, [sl .v (l.map (bn p7))])] (av [(false, [sl .v ((kH x l).map ai)])]) := by
 refine sF Tryz.func78 fun h0 w0 Fz0 => ?_
 refine sn 0 0 fun hl0_0 => ?_
 refine sn 0 1 fun hl0_1 => ?_
 refine sj 1 fun hl1 => ?_
 have hO6 : bi.length = 6 := rfl
 refine l9 ?_
 refine rA ?_ (x := fj (.inr rfl) (by decide) (fR (t := 3) (e := 1)))
 refine sT [1, 2, 4] [2] ?_
 refine oC ?_
 refine sS [1, 2, 4, 5] [2] ?_
 refine rK ?_
 refine sS [1, 2, 4, 5, 6] [2] ?_
 refine rA ?_ (x := cL [] [] JI (hs := by exact Lu))
 refine i6 ?_
 refine sS [1, 2, 4, 5, 6, 7] [2] ?_
 refine bw ?_
 refine sP [1, 2, 4, 5, 6, 7, 8] [2] ?_
 refine mP (s := 5) [sl .v (([] : List Int).map ai)] (by exact rfl) (by exact (ab.cons (Jg rfl) ab.nil)) (by exact (ae.cons (bor_sl _) ae.nil)) ?_
 refine sP [1, 2, 4, 5, 6, 7, 8] [2] ?_
 refine sL [1, 2, 4, 7] [2] (fun k : Nat => k ≤ bi.length ∧ (0 < k → cy x = true)) (fun k : Nat => [(5, RV.sv false [sl .v ((kI x l k).map ai)]), (6, RV.int (mw x l k)), (8, RV.int (k : Int))]) (fun k : Nat => []) (fun k : Nat => bi.length - k) 0 (by exact ⟨by omega, fun h => absurd h (Nat.lt_irrefl 0)⟩) (by exact aI (by exact rfl) (aI (by exact rfl) (aI (by exact rfl) (tI)))) (by exact ⟨⟩) ?_
 rintro k ⟨hk, ha⟩
 refine bu ?_
 refine rA ?_ (x := vM false [sl .v _])
 refine rA ?_ (x := lN nS)
 refine ll ?_
 refine cx 16 (fun ga sga => ?_) (fun ga sga => ?_)
 refine Hm ?_
 refine rA ?_ (x := aA ga)
 refine sc (fun hba => ?_) (fun hba => ?_)
 have hok : cy x = true := by simp_all
 have hlt : k < bi.length := by show k < 6; have h6_ : bi.length = 6 := rfl; first | omega | (simp_all; done) | (simp_all; omega)
 have ho3 := uR hlt
 refine cE ?_
 refine sQ [1, 2, 4, 5, 6, 7, 8] [2] ?_
 refine b9 bP ?_
 refine xN ?_
 refine dG ?_
 refine dA 12 ?_ (x := aD (by decide) nS (by exact ⟨⟩) (by exact rfl) (by exact aE (by omega) rfl) (by exact rfl))
 refine dA 28 ?_ (x := lE [sl .v _] aZ)
 refine dA 63 ?_ (x := cL [(true, [sl _ _, sl _ _]), (false, [sl _ _]), (false, [sl _ _])] [(true, [sl .v _, sl .v _]), (false, [sl .v _]), (false, [sl .v _])] J2 (hs := by exact (Lr (by omega))))
 refine dA 127 ?_ (x := sA)
 refine sS [1, 2, 4, 5, 6, 7, 8, 9] [2] ?_
 refine fZ ?_
 refine rA ?_ (x := dY)
 refine rM ?_
 refine cx 32 (fun gb sgb => ?_) (fun gb sgb => ?_)
 have hk0e : k = 0 := Ou (x := x) (l := l) (by omega) (by first | omega | (simp_all; done))
 have sgb := gb
 try simp only [qq] at sgb
 refine oQ ?_
 refine bC ?_
 exact Ec
 have hk0 : k ≠ 0 := by intro h0_; subst h0_; have hz_ : (kI x l 0).length = 0 := rfl; first | omega | (simp_all; done)
 have sgb := gb
 try simp only [qq] at sgb
 refine rB gb ?_ (x := sM)
 refine rB gb ?_ (x := sM)
 refine rB gb ?_ (x := cb)
 refine rA ?_ (x := ay gb)
 refine sc (fun hbb => ?_) (fun hbb => ?_)
 exact Ec
 have hsb := Ov (x := x) (l := l) hlt hk0 (by omega)
 refine aN ?_
 exact Eb
 exact Ed
 refine jJ ?_
 exact Ed
theorem Ap {p1 p2 p5 p6 p7 p8 p9 p11 p12 p13 p14 p16 p17 p18 : Fl} {e : am}  (hb : aO e ≤ 68719476736) : aw Tryz.prog 20 [(true, [sl .v (e.Store.Segments.map (ax p1 p2)), val (vI e.Store.Now), val (vI e.Cursor), sl .v (e.Order.map ai), sl .v (e.Active.map (aG p5 p6 p7 p8 p9)), sl .v (e.Done.map (aP p11 p12 p13 p14)), sl .v (e.Ledger.map (aR p16 p17 p18)), val (vI e.Steps)])] (av [(false, [sl .v ((eY e).map ai)])]) := by
 refine sF Tryz.func20 fun h0 w0 Fz0 => ?_
 refine sn 0 0 fun hl0_0 => ?_
 refine sn 0 3 fun hl0_3 => ?_
 refine sn 0 4 fun hl0_4 => ?_
 refine sn 0 5 fun hl0_5 => ?_
 refine sn 0 6 fun hl0_6 => ?_
 refine fY ?_
 refine tP ?_
 refine sT [1, 2] [1] ?_
 refine tn ?_
 refine rA ?_ (x := nT)
 refine sc (fun hba => ?_) (fun hba => ?_)
 have hok : aH e = false := by simpa using hba
 refine sS [1, 2] [1] ?_
 refine rA ?_ (x := fj (.inr rfl) (by decide) (fR (t := 3) (e := 1)))
 exact Ee
 have hok : aH e = true := by simpa using hba
 have hrl := uQ hok
 refine aN ?_
 refine tK ?_
 refine Gg ?_
 refine tl ?_
 refine mX ?_
 refine i6 ?_
 refine tO ?_
 refine tR ?_
 refine rA ?_ (x := cL [(true, [sl _ _, sl _ _]), (false, [sl _ _])] [(true, [sl .v _, sl .v _]), (false, [sl .v _])] P7 (hs := by exact (SV (by omega))))
 exact Ef
theorem Aq {p1 p2 p5 p6 p7 p8 p9 p11 p12 p13 p14 p16 p17 p18 : Fl} {e : am}  (hb : aO e ≤ 68719476736) : aw Tryz.prog 21 [(true, [sl .v (e.Store.Segments.map (ax p1 p2)), val (vI e.Store.Now), val (vI e.Cursor), sl .v (e.Order.map ai), sl .v (e.Active.map (aG p5 p6 p7 p8 p9)), sl .v (e.Done.map (aP p11 p12 p13 p14)), sl .v (e.Ledger.map (aR p16 p17 p18)), val (vI e.Steps)])] (av [(false, [sl .v ((eY e).map ai)])]) := by
 refine sF Tryz.func21 fun h0 w0 Fz0 => ?_
 refine sn 0 0 fun hl0_0 => ?_
 refine sn 0 3 fun hl0_3 => ?_
 refine sn 0 4 fun hl0_4 => ?_
 refine sn 0 5 fun hl0_5 => ?_
 refine sn 0 6 fun hl0_6 => ?_
 refine fY ?_
 refine tP ?_
 refine sT [1, 2] [1] ?_
 refine qv ?_
 refine rA ?_ (x := nT)
 refine sc (fun hba => ?_) (fun hba => ?_)
 have hok : aH e = false := by simpa using hba
 refine sS [1, 2] [1] ?_
 refine oC ?_
 exact Ee
 have hok : aH e = true := by simpa using hba
 have hrl := uQ hok
 refine aN ?_
 refine tK ?_
 refine Gh ?_
 refine tl ?_
 refine mX ?_
 refine i6 ?_
 refine tO ?_
 refine tR ?_
 refine rA ?_ (x := cL [(true, [sl _ _, sl _ _]), (false, [sl _ _])] [(true, [sl .v _, sl .v _]), (false, [sl .v _])] P8 (hs := by exact (SX (by omega))))
 exact Ef
end Go.Proofs.YtmekkgdboplbjaaGreat
