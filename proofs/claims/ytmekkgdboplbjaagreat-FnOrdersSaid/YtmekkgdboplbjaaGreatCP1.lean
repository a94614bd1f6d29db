/- What functions of the program compute. No condition. -/
import Derived.Test.YtmekkgdboplbjaaGreatCB1
import Derived.Test.YtmekkgdboplbjaaGreatCI1
import Derived.Test.YtmekkgdboplbjaaGreatCN1
import Derived.Test.YtmekkgdboplbjaaGreatCO1
set_option linter.unusedVariables false
set_option linter.unusedSimpArgs false
namespace Go.Proofs.YtmekkgdboplbjaaGreat
open Go Go.RowKit M PV
set_option maxRecDepth 10000
attribute [local irreducible] PV.Lcl PV.LclR RV.Lcl
set_option maxHeartbeats 8000000
attribute [local irreducible] aj fM
theorem LZ {x : List Int} {y : List Int}  : aw Tryz.prog 19 [(false, [sl .v (x.map ai)]), (false, [sl .v (y.map ai)])] (av [(false, [val (.bool (dl x y))])]) := by
 refine sF Tryz.func19 fun h0 w0 Fz0 => ?_
 refine sj 0 fun hl0 => ?_
 refine sj 1 fun hl1 => ?_
 refine kp ?_
 refine fZ ?_
 refine uv ?_
 refine sc (fun hba => ?_) (fun hba => ?_)
 refine sS [0, 1, 4] [] ?_
 refine bD ?_
 exact rb (by exact (mi (fun e => by subst e; omega)).symm)
 have hl : x.length = y.length := by omega
 refine ni ?_
 refine bw ?_
 refine qw ?_
 rintro k ⟨hk, ha⟩
 refine iK ?_
 refine sc (fun hbb => ?_) (fun hbb => ?_)
 have hlt : k < x.length := by omega
 have hlt2 : k < y.length := by omega
 refine nj ?_
 refine o9 ?_
 refine dG ?_
 refine tF ?_
 refine dA 255 ?_ (x := co)
 refine sc (fun hbc => ?_) (fun hbc => ?_)
 have hne : x[k] ≠ y[k] := by simpa using hbc
 refine sS [0, 1, 5] [] ?_
 refine bD ?_
 exact rb ((mi (In hlt hlt2 hne)).symm)
 have heq : x[k] = y[k] := by simpa using hbc
 refine ns ?_
 refine nx (k + 1) (by exact ⟨by omega, lp ha hlt hlt2 heq⟩)
 exact ql
theorem Ui {code : List Int}  : aw Tryz.prog 3 [(false, [sl .v (code.map kw)])] (av [(false, [val (.bool true)])]) := by
 refine sF Tryz.func3 fun h0 w0 Fz0 => ?_
 refine sj 0 fun hl0 => ?_
 refine oN ?_
 refine rA ?_ (x := vM false [sl .v _])
 refine rA ?_ (x := cL [(false, [sl _ _])] [(false, [sl .v _])] P0 (hs := by exact Uh))
 refine sc (fun hba => ?_) (fun hba => ?_)
 refine sS [0, 2] [] ?_
 refine rK ?_
 exact qi
 have hbig : code.length ≤ 1048576 := by have hh := hba; simp at hh; omega
 have hb : code.length ≤ 9223372036854775807 := by omega
 have hb2 : code.length ≤ 4611686018427387904 := by omega
 have hwe := vJ (ba code hb)
 have hwr := Rx (aK (ba code hb)).1 (aU (aK (ba code hb)).2 [-1, 0, 1, 5, 20]).1
 have hwn := RU (aK (ba code hb)).1 (aU (aK (ba code hb)).2 [-1, 0, 1, 5, 20]).1
 have hpm := vw (aK (ba code hb)).2 (l := [-1, 0, 1, 5, 20]) (by decide)
 simp at hpm
 have hn20 : (aU (aK (ba code hb)).2 [-1, 0, 1, 5, 20]).1 ≤ 20 := by omega
 have haw := vn (aK (ba code hb)).1
 have hwk := T1 (aK (ba code hb)).1
 have hor : (fL (aK (ba code hb)).1 (aU (aK (ba code hb)).2 [-1, 0, 1, 5, 20]).1).Order.length ≤ 50000 := by have h_ : (fL (aK (ba code hb)).1 (aU (aK (ba code hb)).2 [-1, 0, 1, 5, 20]).1).Order.length ≤ aO (fL (aK (ba code hb)).1 (aU (aK (ba code hb)).2 [-1, 0, 1, 5, 20]).1) := by { unfold aO; simp only [cu]; omega }; omega
 refine aN ?_
 refine sS [0, 2] [] ?_
 refine rA ?_ (x := vM false [sl .v _])
 refine rA ?_ (x := cL [(false, [sl _ _])] [(false, [sl .v _])] Qa (hs := by exact (Ug (by omega) (by omega))))
 refine ro ?_
 refine iI ?_
 refine rS ?_
 refine sT [0, 2, 3, 4] [3] ?_
 refine Ia ?_
 refine rA ?_ (x := cL [(true, [sl _ _, val _, val _, sl _ _, sl _ _, sl _ _, sl _ _, val _]), (false, [val _])] [(true, [sl .v _, val _, val _, sl .v _, sl .v _, sl .v _, sl .v _, val _]), (false, [val _])] Qc (hs := by exact (S0 (e := (aK (ba code hb)).1) (n := (aU (aK (ba code hb)).2 [-1, 0, 1, 5, 20]).1) (by omega))))
 refine jH ?_
 refine sO [(0, _), (2, _), (3, _), (4, _), (5, _)] [(3, _), (5, (32, [sl _ _, val _, val _, sl _ _, sl _ _, sl _ _, sl _ _, val _]))] ?_
 refine qG ?_
 refine H6 ?_
 refine dA 6 ?_ (x := cL [(true, [sl _ _, val _, val _, sl _ _, sl _ _, sl _ _, sl _ _, val _]), (false, [val _])] [(true, [sl .v _, val _, val _, sl .v _, sl .v _, sl .v _, sl .v _, val _]), (false, [val _])] OW (hs := by exact (S1 (e := (aK (ba code hb)).1) (n := (aU (aK (ba code hb)).2 [-1, 0, 1, 5, 20]).1) (by omega))))
 refine dA 15 ?_ (x := cL [(true, [sl _ _, val _, val _, sl _ _, sl _ _, sl _ _, sl _ _, val _]), (true, [sl _ _, val _, val _, sl _ _, sl _ _, sl _ _, sl _ _, val _])] [(true, [sl .v _, val _, val _, sl .v _, sl .v _, sl .v _, sl .v _, val _]), (true, [sl .v _, val _, val _, sl .v _, sl .v _, sl .v _, sl .v _, val _])] JA (hs := by exact LD))
 refine dA 31 ?_ (x := nT)
 refine sc (fun hbb => ?_) (fun hbb => ?_)
 exact absurd hbb (by simp [i8])
 refine aN ?_
 refine sS [0, 2, 3, 4, 5] [3, 5] ?_
 refine Ia ?_
 refine rA ?_ (x := cL [(true, [sl _ _, val _, val _, sl _ _, sl _ _, sl _ _, sl _ _, val _]), (false, [val _])] [(true, [sl .v _, val _, val _, sl .v _, sl .v _, sl .v _, sl .v _, val _]), (false, [val _])] OX (hs := by exact (S8 (e := (aK (ba code hb)).1) (n := (aU (aK (ba code hb)).2 [-1, 0, 1, 5, 20]).1) (by omega))))
 refine iI ?_
 refine aJ ?_
 refine sO [(0, _), (2, _), (3, _), (4, _), (5, _), (6, _)] [(3, _), (5, _), (6, (32, [sl _ _, val _, val _, sl _ _, sl _ _, sl _ _, sl _ _, val _]))] ?_
 refine H9 ?_
 refine yh ?_
 refine rA ?_ (x := cL [(true, [sl _ _, val _, val _, sl _ _, sl _ _, sl _ _, sl _ _, val _]), (false, [sl _ _])] [(true, [sl .v _, val _, val _, sl .v _, sl .v _, sl .v _, sl .v _, val _]), (false, [sl .v _])] JC (hs := by exact (Lv (e := (eO (aK (ba code hb)).1 (aU (aK (ba code hb)).2 [-1, 0, 1, 5, 20]).1)) (o := (fL (aK (ba code hb)).1 (aU (aK (ba code hb)).2 [-1, 0, 1, 5, 20]).1).Order) (by omega) (by omega))))
 refine ro ?_
 refine iI ?_
 refine rS ?_
 refine dH ?_
 refine sO [(0, _), (2, _), (3, _), (4, _), (5, _), (6, _), (7, _), (8, _)] [(3, _), (5, _), (6, _), (7, (32, [sl _ _, val _, val _, sl _ _, sl _ _, sl _ _, sl _ _, val _]))] ?_
 refine H9 ?_
 refine rA ?_ (x := cL [(true, [sl _ _, val _, val _, sl _ _, sl _ _, sl _ _, sl _ _, val _])] [(true, [sl .v _, val _, val _, sl .v _, sl .v _, sl .v _, sl .v _, val _])] rI (hs := by exact (rN (e := (aK (ba code hb)).1) (by omega))))
 refine rM ?_
 refine cx 39 (fun ga sga => ?_) (fun ga sga => ?_)
 have hoe : aH (aK (ba code hb)).1 = true := ga; have hol := T3 hn20 hoe
 have sga := ga
 try simp only [qq] at sga
 refine rB ga ?_ (x := sM)
 refine rB ga ?_ (x := nT)
 refine rB ga ?_ (x := sM)
 refine cx 42 (fun gb sgb => ?_) (fun gb sgb => ?_)
 exact absurd gb (by rw [hol]; simp)
 refine rB gb ?_ (x := lD [sl .v _, val _, val _, sl .v _, sl .v _, sl .v _, sl .v _, val _] a7)
 refine rB gb ?_ (x := lD [sl .v _, val _, val _, sl .v _, sl .v _, sl .v _, sl .v _, val _] a7)
 refine rB gb ?_ (x := cL [(true, [sl _ _, val _, val _, sl _ _, sl _ _, sl _ _, sl _ _, val _]), (true, [sl _ _, val _, val _, sl _ _, sl _ _, sl _ _, sl _ _, val _])] [(true, [sl .v _, val _, val _, sl .v _, sl .v _, sl .v _, sl .v _, val _]), (true, [sl .v _, val _, val _, sl .v _, sl .v _, sl .v _, sl .v _, val _])] JA (hs := by exact LD))
 refine rB gb ?_ (x := nT)
 refine rB ga ?_ (x := ay gb)
 refine rA ?_ (x := aA ga)
 refine sc (fun hbc => ?_) (fun hbc => ?_)
 exact absurd hbc (by first | (simp; done) | (rw [hol]; simp [i8]))
 refine aN ?_
 refine sS [0, 2, 3, 4, 5, 6, 7, 8] [3, 5, 6, 7] ?_
 refine Hp ?_
 refine iI ?_
 refine GL ?_
 refine aM ?_
 refine FT ?_
 refine iI ?_
 refine Gz ?_
 refine qG ?_
 refine FS ?_
 refine F8 ?_
 refine dA 31 ?_ (x := sM)
 refine dx 58 (fun gc sgc => ?_) (fun gc sgc => ?_)
 refine dB 63 gc ?_ (x := lD [sl .v _, val _, val _, sl .v _, sl .v _, sl .v _, sl .v _, val _] a7)
 refine dB 127 gc ?_ (x := cL [(true, [sl _ _, val _, val _, sl _ _, sl _ _, sl _ _, sl _ _, val _])] [(true, [sl .v _, val _, val _, sl .v _, sl .v _, sl .v _, sl .v _, val _])] rJ (hs := by exact (sa (e := dh (aK (ba code hb)).1) (by omega))))
 refine dB 63 gc ?_ (x := lD [sl .v _, val _, val _, sl .v _, sl .v _, sl .v _, sl .v _, val _] a7)
 refine dB 511 gc ?_ (x := cL [(true, [sl _ _, val _, val _, sl _ _, sl _ _, sl _ _, sl _ _, val _])] [(true, [sl .v _, val _, val _, sl .v _, sl .v _, sl .v _, sl .v _, val _])] rJ (hs := by exact (sa (e := (aK (ba code hb)).1) (by omega))))
 refine dB 1023 gc ?_ (x := eR)
 refine dA 2047 ?_ (x := aA gc)
 refine dA 4095 ?_ (x := sM)
 refine dx 65 (fun gd sgd => ?_) (fun gd sgd => ?_)
 refine dB 8191 gd ?_ (x := lD [sl .v _, val _, val _, sl .v _, sl .v _, sl .v _, sl .v _, val _] a7)
 refine dB 16383 gd ?_ (x := cL [(true, [sl _ _, val _, val _, sl _ _, sl _ _, sl _ _, sl _ _, val _])] [(true, [sl .v _, val _, val _, sl .v _, sl .v _, sl .v _, sl .v _, val _])] zb (hs := by exact (Ap (e := (aK (ba code hb)).1) (by omega))))
 refine dB 8191 gd ?_ (x := lD [sl .v _, val _, val _, sl .v _, sl .v _, sl .v _, sl .v _, val _] a7)
 refine dB 65535 gd ?_ (x := cL [(true, [sl _ _, val _, val _, sl _ _, sl _ _, sl _ _, sl _ _, val _])] [(true, [sl .v _, val _, val _, sl .v _, sl .v _, sl .v _, sl .v _, val _])] zc (hs := by exact (Aq (e := (aK (ba code hb)).1) (by omega))))
 refine dB 131071 gd ?_ (x := cL [(false, [sl _ _]), (false, [sl _ _])] [(false, [sl .v _]), (false, [sl .v _])] JL (hs := by exact LZ))
 refine dA 262143 ?_ (x := aA gd)
 exact E0
 exact absurd gd (by first | (simp; done) | (simp; omega) | (simp [i8]; done))
 exact E3
 refine jJ ?_
 refine aN ?_
 refine sS [0, 2, 3, 4, 5, 6, 7, 8] [3, 5, 6, 7] ?_
 refine Hp ?_
 refine iI ?_
 refine GL ?_
 refine aM ?_
 refine FT ?_
 refine iI ?_
 refine Gz ?_
 refine qG ?_
 refine FS ?_
 refine F8 ?_
 refine dA 31 ?_ (x := sM)
 refine dx 58 (fun gb sgb => ?_) (fun gb sgb => ?_)
 refine dB 63 gb ?_ (x := lD [sl .v _, val _, val _, sl .v _, sl .v _, sl .v _, sl .v _, val _] a7)
 refine dB 127 gb ?_ (x := cL [(true, [sl _ _, val _, val _, sl _ _, sl _ _, sl _ _, sl _ _, val _])] [(true, [sl .v _, val _, val _, sl .v _, sl .v _, sl .v _, sl .v _, val _])] rJ (hs := by exact (sa (e := dh (aK (ba code hb)).1) (by omega))))
 refine dB 63 gb ?_ (x := lD [sl .v _, val _, val _, sl .v _, sl .v _, sl .v _, sl .v _, val _] a7)
 refine dB 511 gb ?_ (x := cL [(true, [sl _ _, val _, val _, sl _ _, sl _ _, sl _ _, sl _ _, val _])] [(true, [sl .v _, val _, val _, sl .v _, sl .v _, sl .v _, sl .v _, val _])] rJ (hs := by exact (sa (e := (aK (ba code hb)).1) (by omega))))
 refine dB 1023 gb ?_ (x := eR)
 refine dA 2047 ?_ (x := aA gb)
 refine dA 4095 ?_ (x := sM)
 refine dx 65 (fun gc sgc => ?_) (fun gc sgc => ?_)
 refine dB 8191 gc ?_ (x := lD [sl .v _, val _, val _, sl .v _, sl .v _, sl .v _, sl .v _, val _] a7)
 refine dB 16383 gc ?_ (x := cL [(true, [sl _ _, val _, val _, sl _ _, sl _ _, sl _ _, sl _ _, val _])] [(true, [sl .v _, val _, val _, sl .v _, sl .v _, sl .v _, sl .v _, val _])] zb (hs := by exact (Ap (e := (aK (ba code hb)).1) (by omega))))
 refine dB 8191 gc ?_ (x := lD [sl .v _, val _, val _, sl .v _, sl .v _, sl .v _, sl .v _, val _] a7)
 refine dB 65535 gc ?_ (x := cL [(true, [sl _ _, val _, val _, sl _ _, sl _ _, sl _ _, sl _ _, val _])] [(true, [sl .v _, val _, val _, sl .v _, sl .v _, sl .v _, sl .v _, val _])] zc (hs := by exact (Aq (e := (aK (ba code hb)).1) (by omega))))
 refine dB 131071 gc ?_ (x := cL [(false, [sl _ _]), (false, [sl _ _])] [(false, [sl .v _]), (false, [sl .v _])] JL (hs := by exact LZ))
 refine dA 262143 ?_ (x := aA gc)
 exact E0
 exact E3
 exact absurd gb (by first | (simp; done) | (simp; omega) | (simp [i8]; done))
end Go.Proofs.YtmekkgdboplbjaaGreat
