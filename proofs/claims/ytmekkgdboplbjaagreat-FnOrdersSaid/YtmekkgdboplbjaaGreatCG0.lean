/- What functions of the program compute. No condition. -/
import Derived.Test.YtmekkgdboplbjaaGreatCD0
import Derived.Test.YtmekkgdboplbjaaGreatCF0
set_option linter.unusedVariables false
set_option linter.unusedSimpArgs false
namespace Go.Proofs.YtmekkgdboplbjaaGreat
open Go Go.RowKit M PV
set_option maxRecDepth 10000
attribute [local irreducible] PV.Lcl PV.LclR RV.Lcl
theorem iU {n : Int} {l : Int} {h : Int}  : aw Tryz.prog 98 [(false, [val (vI n)]), (false, [val (vI l)]), (false, [val (vI h)])] (av [(false, [val (.bool (aB n l h))])]) := by
 refine sF Tryz.func98 fun h0 w0 Fz0 => ?_
 exact BX
theorem eZ {n : Int} {l : Int} {h : Int}  : aw Tryz.prog 65 [(false, [val (vI n)]), (false, [val (vI l)]), (false, [val (vI h)])] (av [(false, [val (.bool (aB n l h))])]) := by
 refine sF Tryz.func65 fun h0 w0 Fz0 => ?_
 exact BX
theorem zm {n : Int}  : aw Tryz.prog 200 [(false, [val (vI n)])] (av [(false, [val (.bool (aB n 0 2))])]) := by
 refine sF Tryz.func200 fun h0 w0 Fz0 => ?_
 refine sR ?_
 refine rK ?_
 refine sS [0, 2] [] ?_
 refine Hg ?_
 exact wF
theorem u5 {xs : List Int} {x : Int}  : aw Tryz.prog 160 [(false, [sl .v (xs.map ai)]), (false, [val (vI x)])] (av [(false, [val (.bool (bh xs x))])]) := by
 refine sF Tryz.func160 fun h0 w0 Fz0 => ?_
 refine sj 0 fun hl0 => ?_
 refine kp ?_
 refine bw ?_
 refine sP [0, 1, 4, 5] [] ?_
 refine sL [0, 1] [] (fun k : Nat => k ≤ xs.length ∧ (xs.take k).any (fun y => y == x) = false) (fun k : Nat => [(5, RV.int (k : Int))]) (fun k : Nat => []) (fun k : Nat => xs.length - k) 0 (by exact ⟨by omega, by simp⟩) (by exact aI (by exact rfl) (tI)) (by exact ⟨⟩) ?_
 rintro k ⟨hk, ha⟩
 refine iK ?_
 refine sc (fun hba => ?_) (fun hba => ?_)
 have hlt : k < xs.length := by omega
 refine aT ?_
 refine sS [0, 1, 5] [] ?_
 refine oY ?_
 refine oV ?_
 refine sc (fun hbb => ?_) (fun hbb => ?_)
 refine sS [0, 1, 5] [] ?_
 exact BY
 refine ns ?_
 exact BZ
 refine ul ?_
 exact B0
theorem Kd {xs : List Int} {x : Int}  : aw Tryz.prog 107 [(false, [sl .v (xs.map ai)]), (false, [val (vI x)])] (av [(false, [val (.bool (bh xs x))])]) := by
 refine sF Tryz.func107 fun h0 w0 Fz0 => ?_
 refine sj 0 fun hl0 => ?_
 refine kp ?_
 refine oZ ?_
 refine sP [0, 1, 4, 7, 8, 9] [] ?_
 refine sL [0, 1, 7, 8] [] (fun k : Nat => k ≤ xs.length ∧ (xs.take k).any (fun y => y == x) = false) (fun k : Nat => [(9, RV.int (k : Int))]) (fun k : Nat => []) (fun k : Nat => xs.length - k) 0 (by exact ⟨by omega, by simp⟩) (by exact aI (by exact rfl) (tI)) (by exact ⟨⟩) ?_
 rintro k ⟨hk, ha⟩
 refine bG ?_
 refine sc (fun hba => ?_) (fun hba => ?_)
 have hlt : k < xs.length := by omega
 refine aT ?_
 refine sS [0, 1, 7, 8, 9] [] ?_
 refine kt ?_
 refine sS [0, 1, 6, 7, 8, 9] [] ?_
 refine rM ?_
 refine oV ?_
 refine sc (fun hbb => ?_) (fun hbb => ?_)
 refine sS [0, 1, 6, 7, 8, 9] [] ?_
 exact BY
 refine aN ?_
 refine sG [0, 1, 6, 7, 8, 9] [] ?_
 refine b5 ?_
 exact BZ
 refine aX ?_
 refine sS [0, 1, 7, 8, 9] [] ?_
 exact B0
theorem Ke {xs : List Int} {x : Int}  : aw Tryz.prog 278 [(false, [sl .v (xs.map ai)]), (false, [val (vI x)])] (av [(false, [val (.bool (bh xs x))])]) := by
 refine sF Tryz.func278 fun h0 w0 Fz0 => ?_
 refine sj 0 fun hl0 => ?_
 refine sR ?_
 refine rK ?_
 refine sS [0, 1, 4] [] ?_
 refine HE ?_
 refine rS ?_
 exact qi
theorem mA {x : List Int}  (hb : x.length ≤ 68719476736) : aw Tryz.prog 144 [(false, [sl .v (x.map ai)])] (av [(false, [sl (.own 3 1) (x.map ai)])]) := by
 refine sF Tryz.func144 fun h0 w0 Fz0 => ?_
 refine sj 0 fun hl0 => ?_
 refine jD ?_
 refine sS [0, 2] [] ?_
 refine xF ?_
 refine rA ?_ (x := tA)
 exact qi
theorem zo {x : Row}  : aw Tryz.prog 174 [(true, [val (vI x.Id), sl .v (x.Values.map ai)])] (av [(false, [val (.bool (bm x))])]) := by
 refine sF Tryz.func174 fun h0 w0 Fz0 => ?_
 refine sn 0 1 fun hl0_1 => ?_
 refine qH ?_
 refine ie ?_
 refine rA ?_ (x := lF ip)
 refine m8 ?_
 refine cj ?_
 refine sP [1, 2, 6, 7, 8] [1] ?_
 refine sL [1, 6, 7] [1] (fun k : Nat => k ≤ x.Values.length ∧ (x.Values.take k).all gL = true) (fun k : Nat => [(8, RV.int (k : Int))]) (fun k : Nat => []) (fun k : Nat => x.Values.length - k) 0 (by exact ⟨by omega, by simp⟩) (by exact aI (by exact rfl) (tI)) (by exact ⟨⟩) ?_
 rintro k ⟨hk, ha⟩
 refine bG ?_
 refine sc (fun hba => ?_) (fun hba => ?_)
 have hlt : k < x.Values.length := by omega
 refine aT ?_
 refine sT [1, 6, 7, 8] [1] ?_
 refine kt ?_
 refine sS [1, 4, 6, 7, 8] [1] ?_
 refine Hg ?_
 refine rA ?_ (x := nT)
 refine sc (fun hbb => ?_) (fun hbb => ?_)
 have hno : gL x.Values[k] = false := by simpa [gL] using hbb
 refine sS [1, 4, 6, 7, 8] [1] ?_
 exact B3
 have hyes : gL x.Values[k] = true := by simpa [gL] using hbb
 refine aN ?_
 refine sG [1, 4, 6, 7, 8] [1] ?_
 exact qj
 have hall : x.Values.all gL = true := ik (by rw [show x.Values.length = k by omega]; exact ha)
 refine aX ?_
 refine sT [1, 6, 7, 8] [1] ?_
 refine rA ?_ (x := lF je)
 refine tu ?_
 refine rM ?_
 refine cx 19 (fun ga sga => ?_) (fun ga sga => ?_)
 exact B5
 refine lg ?_
 exact wG
theorem u6 {x : Row}  : aw Tryz.prog 166 [(true, [val (vI x.Id), sl .v (x.Values.map ai)])] (av [(false, [val (.bool (bm x))])]) := by
 refine sF Tryz.func166 fun h0 w0 Fz0 => ?_
 refine sn 0 1 fun hl0_1 => ?_
 refine qH ?_
 refine ie ?_
 refine oR ?_
 refine sL [1] [1] (fun k : Nat => k ≤ x.Values.length ∧ (x.Values.take k).all gL = true) (fun k : Nat => [(3, RV.int (k : Int))]) (fun k : Nat => []) (fun k : Nat => x.Values.length - k) 0 (by exact ⟨by omega, by simp⟩) (by exact aI (by exact rfl) (tI)) (by exact ⟨⟩) ?_
 rintro k ⟨hk, ha⟩
 refine bu ?_
 refine rA ?_ (x := lF ip)
 refine m8 ?_
 refine rA ?_ (x := cb)
 refine sc (fun hba => ?_) (fun hba => ?_)
 have hlt : k < x.Values.length := by omega
 refine aT ?_
 refine sT [1, 3] [1] ?_
 refine rA ?_ (x := lF ip)
 refine rA ?_ (x := lD [sl .v _] aZ)
 refine rM ?_
 refine ti ?_
 refine G5 ?_
 refine sc (fun hbb => ?_) (fun hbb => ?_)
 have hno : gL x.Values[k] = false := by simpa [gL] using hbb
 refine sS [1, 3] [1] ?_
 exact B3
 have hyes : gL x.Values[k] = true := by simpa [gL] using hbb
 refine oS ?_
 exact mR
 have hall : x.Values.all gL = true := ik (by rw [show x.Values.length = k by omega]; exact ha)
 refine rg ?_
 refine rA ?_ (x := lF je)
 refine qy ?_
 refine rM ?_
 refine cx 21 (fun ga sga => ?_) (fun ga sga => ?_)
 exact B5
 refine lg ?_
 exact wG
theorem Qh {p1 : Fl} {x : List Row}  : aw Tryz.prog 201 [(false, [sl .v (x.map (bn p1))])] (av [(false, [val (.bool (x.all bm))])]) := by
 refine sF Tryz.func201 fun h0 w0 Fz0 => ?_
 refine sj 0 fun hl0 => ?_
 refine oN ?_
 refine ki ?_
 refine cj ?_
 refine sP [0, 2, 5, 6, 7] [] ?_
 refine sL [0, 5, 6] [] (fun k : Nat => k ≤ x.length ∧ (x.take k).all bm = true) (fun k : Nat => [(7, RV.int (k : Int))]) (fun k : Nat => []) (fun k : Nat => x.length - k) 0 (by exact ⟨by omega, by simp⟩) (by exact aI (by exact rfl) (tI)) (by exact ⟨⟩) ?_
 rintro k ⟨hk, ha⟩
 refine bG ?_
 refine sc (fun hba => ?_) (fun hba => ?_)
 have hlt : k < x.length := by omega
 refine aT ?_
 refine sS [0, 5, 6, 7] [] ?_
 refine qx ?_
 refine tD ?_
 refine sT [0, 4, 5, 6, 7] [4] ?_
 refine Hx ?_
 refine rA ?_ (x := nT)
 refine sc (fun hbb => ?_) (fun hbb => ?_)
 have hno : bm x[k] = false := by simpa [] using hbb
 refine sS [0, 4, 5, 6, 7] [4] ?_
 refine bD ?_
 exact rb (by simp [id, jK (P := bm) hlt hno])
 have hyes : bm x[k] = true := by simpa [] using hbb
 refine aN ?_
 refine sG [0, 4, 5, 6, 7] [4] ?_
 exact qj
 have hall : x.all bm = true := ik (by rw [show x.length = k by omega]; exact ha)
 refine aX ?_
 refine sS [0, 5, 6, 7] [] ?_
 refine bD ?_
 exact rb (by simp [id, hall, *])
theorem Kf {p1 : Fl} {x : List Row}  : aw Tryz.prog 102 [(false, [sl .v (x.map (bn p1))])] (av [(false, [val (.bool (jL x))])]) := by
 refine sF Tryz.func102 fun h0 w0 Fz0 => ?_
 refine sj 0 fun hl0 => ?_
 refine sR ?_
 refine rK ?_
 refine sS [0, 2] [] ?_
 refine ki ?_
 refine rA ?_ (x := eR)
 refine rM ?_
 refine cx 6 (fun ga sga => ?_) (fun ga sga => ?_)
 refine rB ga ?_ (x := vM false [sl .v _])
 refine rB ga ?_ (x := cL [(false, [sl _ _])] [(false, [sl .v _])] N1 (hs := by exact Qh))
 refine rA ?_ (x := aA ga)
 exact B6
 refine lg ?_
 exact B6
theorem Kg {p1 : Fl} {x : List Row}  : aw Tryz.prog 68 [(false, [sl .v (x.map (bn p1))])] (av [(false, [val (.bool (jL x))])]) := by
 refine sF Tryz.func68 fun h0 w0 Fz0 => ?_
 refine sj 0 fun hl0 => ?_
 refine o6 ?_
 refine sL [0] [] (fun k : Nat => k ≤ x.length ∧ (x.take k).all bm = true) (fun k : Nat => [(3, RV.int (k : Int))]) (fun k : Nat => []) (fun k : Nat => x.length - k) 0 (by exact ⟨by omega, by simp⟩) (by exact aI (by exact rfl) (tI)) (by exact ⟨⟩) ?_
 rintro k ⟨hk, ha⟩
 refine bu ?_
 refine rh ?_
 refine sc (fun hba => ?_) (fun hba => ?_)
 have hlt : k < x.length := by omega
 refine aT ?_
 refine sS [0, 3] [] ?_
 refine i4 ?_
 refine H4 ?_
 refine rA ?_ (x := nT)
 refine sc (fun hbb => ?_) (fun hbb => ?_)
 have hno : bm x[k] = false := by simpa [] using hbb
 refine rn ?_
 exact rb (by simp [jL, jK (P := bm) hlt hno])
 have hyes : bm x[k] = true := by simpa [] using hbb
 refine nf ?_
 exact mR
 have hall : x.all bm = true := ik (by rw [show x.length = k by omega]; exact ha)
 refine ng ?_
 refine ki ?_
 refine rA ?_ (x := eR)
 refine cK ?_
 exact rb (by simp [jL, hall, *])
theorem Qi {x : Row}  (hb : fG x ≤ 68719476736) : aw Tryz.prog 270 [(true, [val (vI x.Id), sl .v (x.Values.map ai)])] (av [(true, [val (vI x.Id), sl (.own 3 1) (x.Values.map ai)])]) := by
 refine sF Tryz.func270 fun h0 w0 Fz0 => ?_
 refine sn 0 1 fun hl0_1 => ?_
 have hbu := hb
 simp only [fG, cu, aV] at hbu
 refine qH ?_
 refine yg ?_
 refine dA 0 ?_ (x := lF je)
 refine dA 1 ?_ (x := lD [val _] aq)
 refine dA 0 ?_ (x := lF ip)
 refine Hy ?_
 refine dA 31 ?_ (x := cv (qs := [(false, [val _]), (false, [sl _ _])]) (cs := [val _, sl _ _]) (by decide) ff iQ II (by exact rfl) (by exact (aI (by exact ⟨⟩) (aI (by exact ⟨⟩) tI))) rfl (by exact rfl))
 exact B8
theorem Kh {x : Row}  (hb : fG x ≤ 68719476736) : aw Tryz.prog 92 [(true, [val (vI x.Id), sl .v (x.Values.map ai)])] (av [(true, [val (vI x.Id), sl (.own 3 1) (x.Values.map ai)])]) := by
 refine sF Tryz.func92 fun h0 w0 Fz0 => ?_
 refine sn 0 1 fun hl0_1 => ?_
 have hbu := hb
 simp only [fG, cu, aV] at hbu
 refine qH ?_
 refine yg ?_
 refine dA 0 ?_ (x := lF je)
 refine dA 1 ?_ (x := lD [val _] aq)
 refine dA 0 ?_ (x := bd (qs := []) (by decide) a3 ce (by decide) rfl rfl rfl rfl rfl (by exact nl rfl) (by exact ⟨⟩) rfl)
 refine dA 0 ?_ (x := lF ip)
 refine dA 8 ?_ (x := lD [sl .v _] aZ)
 refine dA 28 ?_ (x := gp (by decide) a3 ce rfl rfl (by decide) (by first | (intro cs hcs; obtain ⟨x, _, rfl⟩ := List.mem_map.1 hcs; exact rfl) | simp) (by first | (intro cs hcs; obtain ⟨x, _, rfl⟩ := List.mem_map.1 hcs; exact (ae.cons (bor_val _) ae.nil)) | simp) (by simp only [List.length_map, List.length_append, List.length_cons, List.length_nil]; omega) (by simp only [List.length_map, List.length_append, List.length_cons, List.length_nil]; omega))
 refine dA 63 ?_ (x := cv (qs := [(false, [val _]), (false, [sl _ _])]) (cs := [val _, sl _ _]) (by decide) ff iQ II (by exact rfl) (by exact (aI (by exact ⟨⟩) (aI (by exact ⟨⟩) tI))) rfl (by exact rfl))
 refine dA 127 ?_ (x := aQ (ag := true) (vs := [val _, sl _ _]) ew (by exact ⟨⟩) (by exact rfl) (by exact nl rfl))
 exact B7
theorem Ki {p1 : Fl} {x : List Row}  (hb : eJ x ≤ 68719476736) : aw Tryz.prog 227 [(false, [sl .v (x.map (bn p1))])] (av [(false, [sl (.own 54 2) (x.map (bn (.own 3 1)))])]) := by
 refine sF Tryz.func227 fun h0 w0 Fz0 => ?_
 refine sj 0 fun hl0 => ?_
 have hbu := hb
 simp only [eJ] at hbu
 refine xM ?_
 refine sS [0, 2] [] ?_
 refine oI ?_
 refine aJ ?_
 refine sS [0, 2, 3] [] ?_
 refine ki ?_
 refine cj ?_
 refine sP [0, 2, 3, 7, 8, 9] [] ?_
 refine sL [0, 2, 7, 8] [] (fun k : Nat => k ≤ x.length) (fun k : Nat => [(3, RV.slc (.own 54 2) ((x.take k).map (bn (.own 3 1)))), (9, RV.int (k : Int))]) (fun k : Nat => []) (fun k : Nat => x.length - k) 0 (by omega) (by exact aI (by first | exact rfl | simp) (aI (by exact rfl) (tI))) (by exact ⟨⟩) ?_
 rintro k hk
 refine bG ?_
 refine sc (fun hba => ?_) (fun hba => ?_)
 have hlt : k < x.length := by omega
 have hwm := cR (f := fG) hlt
 have htl : (x.take k).length = k := by rw [List.length_take]; omega
 refine aT ?_
 refine sS [0, 2, 3, 7, 8, 9] [] ?_
 refine qx ?_
 refine tD ?_
 refine sH [0, 2, 3, 5, 7, 8, 9] [5] ?_
 refine rA ?_ (x := tM)
 refine rA ?_ (x := lD [val _, sl .v _] ew)
 refine rA ?_ (x := cL [(true, [val _, sl _ _])] [(true, [val _, sl .v _])] N2 (hs := by exact Qi (by omega)))
 refine oB ?_
 exact Ca
 exact Cb
theorem Qj {p1 : Fl} {x : List Row}  (hb : eJ x ≤ 68719476736) : aw Tryz.prog 157 [(false, [sl .v (x.map (bn p1))])] (av [(false, [sl (.own 54 2) (x.map (bn (.own 3 1)))])]) := by
 refine sF Tryz.func157 fun h0 w0 Fz0 => ?_
 refine sj 0 fun hl0 => ?_
 have hbu := hb
 simp only [eJ] at hbu
 refine xM ?_
 refine sS [0, 2] [] ?_
 refine oI ?_
 refine o7 ?_
 refine sL [0, 2] [] (fun k : Nat => k ≤ x.length) (fun k : Nat => [(3, RV.slc (.own 54 2) ((x.take k).map (bn (.own 3 1)))), (4, RV.int (k : Int))]) (fun k : Nat => []) (fun k : Nat => x.length - k) 0 (by omega) (by exact aI (by first | exact rfl | simp) (aI (by exact rfl) (tI))) (by exact ⟨⟩) ?_
 rintro k hk
 refine bu ?_
 refine rh ?_
 refine sc (fun hba => ?_) (fun hba => ?_)
 have hlt : k < x.length := by omega
 have hwm := cR (f := fG) hlt
 have htl : (x.take k).length = k := by rw [List.length_take]; omega
 refine aT ?_
 refine sG [0, 2, 3, 4] [] ?_
 refine rA ?_ (x := tM)
 refine i4 ?_
 refine qx ?_
 refine rA ?_ (x := cL [(true, [val _, sl _ _])] [(true, [val _, sl .v _])] IF (hs := by exact Kh (by omega)))
 refine oB ?_
 refine rA ?_ (x := tA)
 refine sG [0, 2, 3, 4] [] ?_
 exact wH
 exact wI
end Go.Proofs.YtmekkgdboplbjaaGreat
