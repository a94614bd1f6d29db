/- What functions of the program compute. No condition. -/
import Derived.Test.YtmekkgdboplbjaaGreatCM0
set_option linter.unusedVariables false
set_option linter.unusedSimpArgs false
namespace Go.Proofs.YtmekkgdboplbjaaGreat
open Go Go.RowKit M PV
set_option maxRecDepth 10000
attribute [local irreducible] PV.Lcl PV.LclR RV.Lcl
theorem Kq : cU Tryz.prog 124 = some [(0, 1), (1, 1)] := by kernel_rfl
theorem QF {p1 p2 : Fl} {l : List Query}  : aw Tryz.prog 178 [(false, [sl .v (l.map (cN p1 p2))])] (av [(true, [sl (.own 52 4) ((eW l).Queries.map (cN (.own 178 3) (.own 3 1))), sl (.own 243 1) ((eW l).Fields.map (iM (.own 268 3) (.own 3 1)))])]) := by
 refine sF Tryz.func178 fun h0 w0 Fz0 => ?_
 refine sj 0 fun hl0 => ?_
 refine sR ?_
 refine rX ?_ (x := (bB (by decide) my mz))
 refine aJ ?_
 refine sT [0, 2] [2] ?_
 refine rA ?_ (x := vM false [sl .v _])
 refine rA ?_ (x := cL [(false, [sl _ _])] [(false, [sl .v _])] uX (hs := by exact u9))
 refine rA ?_ (x := nT)
 refine sc (fun hba => ?_) (fun hba => ?_)
 have hok : b7 l = false := by simpa using hba
 refine sS [0, 2] [2] ?_
 refine rA ?_ (x := cv (qs := []) (cs := [sl _ _, sl _ _]) (by decide) my mz Kq (by exact rfl) (by exact ⟨⟩) rfl (by exact rfl))
 exact CT
 have hok : b7 l = true := by simpa using hba
 have hqw := I3 hok
 have hql := jl hok
 refine aN ?_
 refine sS [0, 2] [2] ?_
 refine rA ?_ (x := vM false [sl .v _])
 refine rA ?_ (x := cL [(false, [sl _ _])] [(false, [sl .v _])] PD (hs := by exact QE (by omega)))
 refine rA ?_ (x := cv (qs := [(false, [sl _ _])]) (cs := [sl _ _, sl _ _]) (by decide) my mz Kq (by exact rfl) (by exact (aI (by exact ⟨⟩) tI)) rfl (by exact rfl))
 refine mX ?_
 refine dH ?_
 refine sO [(0, _), (2, _), (3, _)] [(2, _), (3, (124, [sl _ _, sl _ _]))] ?_
 refine oX ?_
 refine FP ?_
 rintro k hk
 refine nh ?_
 refine sc (fun hbb => ?_) (fun hbb => ?_)
 have hlt : k < 3 := by omega
 have hfl := I4 (l := l) (k := k)
 refine aT ?_
 refine sQ [0, 2, 3, 4] [2, 3] ?_
 refine b9 bP ?_
 refine Gi ?_
 refine dG ?_
 refine dA 12 ?_ (x := cL [(false, [sl _ _]), (false, [val _])] [(false, [sl .v _]), (false, [val _])] JQ (hs := by exact Kp))
 exact CU
 exact CV
theorem QG {p1 p2 p4 p5 : Fl} {x : bS}  : aw Tryz.prog 179 [(true, [sl .v (x.Queries.map (cN p1 p2)), sl .v (x.Fields.map (iM p4 p5))])] (av [(false, [val (.bool (cy x))])]) := by
 refine sF Tryz.func179 fun h0 w0 Fz0 => ?_
 refine sn 0 0 fun hl0_0 => ?_
 refine sn 0 1 fun hl0_1 => ?_
 refine l9 ?_
 refine ie ?_
 refine qP ?_
 refine rA ?_ (x := cL [(false, [sl _ _])] [(false, [sl .v _])] uX (hs := by exact u9))
 refine dI ?_
 refine cx 8 (fun ga sga => ?_) (fun ga sga => ?_)
 exact CW
 refine rB ga ?_ (x := lF pu)
 refine rB ga ?_ (x := lD [sl .v _] px)
 refine rB ga ?_ (x := lN lO)
 refine yr ?_
 refine sc (fun hba => ?_) (fun hba => ?_)
 exact wT
 have hpr : (b7 x.Queries && decide (x.Fields.length = 3)) = true := by first | (simp_all; done) | (simp_all; omega)
 have hf3 : x.Fields.length = 3 := of_decide_eq_true (Bool.and_eq_true_iff.1 hpr).2
 refine nq ?_
 refine oR ?_
 refine sL [1] [1] (fun k : Nat => k ≤ 3 ∧ mr x k = true) (fun k : Nat => [(3, RV.int (k : Int))]) (fun k : Nat => []) (fun k : Nat => 3 - k) 0 (by exact ⟨by omega, rfl⟩) (by exact aI (by exact rfl) (tI)) (by exact ⟨⟩) ?_
 rintro k ⟨hk, ha⟩
 refine nh ?_
 refine sc (fun hbb => ?_) (fun hbb => ?_)
 have hlt : k < 3 := by omega
 have hfl : k < x.Fields.length := by omega
 refine cE ?_
 refine sQ [1, 3] [1] ?_
 refine b9 bP ?_
 refine xR ?_
 refine dA 0 ?_ (x := sM)
 refine dA 7 ?_ (x := aD (k := k) (by decide) lO (by exact ⟨⟩) (by first | rfl | omega) (by exact aE hfl (by rw [cX (d := []) hfl])) (by exact rfl))
 refine dA 15 ?_ (x := lE [sl .v _] u0)
 refine dA 0 ?_ (x := lF J8)
 refine dA 32 ?_ (x := lD [sl .v _] Ka)
 refine dA 0 ?_ (x := sM)
 refine dA 224 ?_ (x := cL [(false, [sl _ _]), (false, [val _])] [(false, [sl .v _]), (false, [val _])] JQ (hs := by exact Kp))
 refine dA 511 ?_ (x := cL [(false, [sl _ _]), (false, [sl _ _])] [(false, [sl .v _]), (false, [sl .v _])] PE (hs := by exact QD))
 refine dA 1023 ?_ (x := nT)
 refine sc (fun hbc => ?_) (fun hbc => ?_)
 have hd : dl (x.Fields.getD k []) (df x.Queries (k : Int)) = false := by simpa using hbc
 refine sS [1, 3] [1] ?_
 refine bD ?_
 exact rb ((IZ hlt hd).symm)
 have hd : dl (x.Fields.getD k []) (df x.Queries (k : Int)) = true := by simpa using hbc
 refine oS ?_
 refine bF ?_
 exact CX
 have hend : k = 3 := by omega
 rw [hend] at ha
 refine rg ?_
 exact CY
theorem QH {p1 p2 : Fl} {l : List Query}  (hb : l.length ≤ 1048576) : aw Tryz.prog 248 [(false, [sl .v (l.map (cN p1 p2))])] (av [(false, [sl (.own 3 1) ((jm l).map ai)])]) := by
 refine sF Tryz.func248 fun h0 w0 Fz0 => ?_
 refine sj 0 fun hl0 => ?_
 refine jD ?_
 refine sS [0, 2] [] ?_
 refine oC ?_
 refine o7 ?_
 refine sL [0, 2] [] (fun k : Nat => k ≤ l.length) (fun k : Nat => [(3, RV.slc (.own 3 1) ((jm (l.take k)).map ai)), (4, RV.int (k : Int))]) (fun k : Nat => []) (fun k : Nat => l.length - k) 0 (by omega) (by exact aI (by exact rfl) (aI (by exact rfl) (tI))) (by exact ⟨⟩) ?_
 rintro k hk
 refine bu ?_
 refine mc ?_
 refine rA ?_ (x := cb)
 refine sc (fun hba => ?_) (fun hba => ?_)
 have hlt : k < l.length := by omega
 have htl : (jm (l.take k)).length = k := by unfold jm; rw [List.length_map, List.length_take]; omega
 refine aT ?_
 refine sG [0, 2, 3, 4] [] ?_
 refine rA ?_ (x := tM)
 refine HR ?_
 refine tL ?_
 refine i7 ?_
 refine sG [0, 2, 3, 4] [] ?_
 refine bF ?_
 refine nx (k + 1) (by omega) (e := (by exact aI (by exact bg (by unfold jm; rw [pg hlt, List.map_append]; rfl)) (aI (by exact rfl) (tI))))
 have hend : k = l.length := by omega
 exact Cc
theorem zw {o : List Int}  : aw Tryz.prog 63 [(false, [sl .v (o.map ai)])] (av [(false, [val (.bool (bK o))])]) := by
 refine sF Tryz.func63 fun h0 w0 Fz0 => ?_
 refine sj 0 fun hl0 => ?_
 refine oN ?_
 refine uv ?_
 refine sc (fun hba => ?_) (fun hba => ?_)
 have hbad : bK o = false := by unfold bK; rw [decide_eq_false (by omega)]; rfl
 refine sS [0, 2] [] ?_
 exact jC
 have hl3 : o.length = 3 := by omega
 refine dE ?_
 refine sS [0, 2] [] ?_
 refine bw ?_
 refine sP [0, 2, 3] [] ?_
 refine sL [0] [] (fun k : Nat => k ≤ o.length ∧ po o k = true) (fun k : Nat => [(3, RV.int (k : Int))]) (fun k : Nat => []) (fun k : Nat => o.length - k) 0 (by exact ⟨by omega, rfl⟩) (by exact aI (by exact rfl) (tI)) (by exact ⟨⟩) ?_
 rintro k ⟨hk, ha⟩
 refine iK ?_
 refine sc (fun hbb => ?_) (fun hbb => ?_)
 have hlt : k < o.length := by omega
 have hgk := cX (d := (0 : Int)) hlt
 refine cE ?_
 refine sP [0, 3] [] ?_
 refine o9 ?_
 refine G0 ?_
 refine dA 63 ?_ (x := sM)
 refine dx 19 (fun ga sga => ?_) (fun ga sga => ?_)
 refine dT 127 ga ?_
 refine dT 127 ga ?_
 refine dT 511 ga ?_
 refine dT 127 ga ?_
 refine dT 127 ga ?_
 refine dT 3199 ga ?_
 refine dT 7295 ga ?_
 refine dT 16383 ga ?_
 refine dA 32767 ?_ (x := aA ga)
 refine bC ?_
 exact CZ
 refine dB 127 ga ?_ (x := vM false [sl .v _])
 refine dB 127 ga ?_ (x := sM)
 refine dB 511 ga ?_ (x := wd (i := 0) (j := k) (ys := (o.take k)) (q := (0 : Int)) (by decide) a3 (by exact rfl) (by exact ⟨⟩) (by omega) (by omega) (by omega) (by omega) (fun _ => rfl) (by simp))
 refine dB 127 ga ?_ (x := vM false [sl .v _])
 refine dB 127 ga ?_ (x := sM)
 refine dB 3199 ga ?_ (x := aD (by decide) a3 (by exact ⟨⟩) (by exact rfl) (by exact aE (by omega) rfl) (by exact rfl))
 refine dB 7295 ga ?_ (x := lE [val _] aq)
 refine dB 16383 ga ?_ (x := cL [(false, [sl _ _]), (false, [val _])] [(false, [sl .v _]), (false, [val _])] uA (hs := by exact u5))
 refine dA 32767 ?_ (x := ay ga)
 refine sc (fun hbc => ?_) (fun hbc => ?_)
 exact CZ
 have hyes : (aB (o.getD k 0) 0 2 && !bh (o.take k) (o.getD k 0)) = true := by rw [← hgk]; simp_all
 refine nf ?_
 refine bF ?_
 refine nx (k + 1) (by exact ⟨by omega, by rw [Od, ha, hyes]; rfl⟩)
 have hend : k = 3 := by omega
 rw [hend, I1 hl3] at ha
 refine ng ?_
 refine bD ?_
 exact rb (ha.symm)
theorem Kr {p1 p2 p4 p5 : Fl} {x : bS} {r : Row} {o : List Int}  (hxo : cy x = true) (hro : bm r = true) (hoo : bK o = true) : aw Tryz.prog 180 [(true, [sl .v (x.Queries.map (cN p1 p2)), sl .v (x.Fields.map (iM p4 p5))]), (true, [val (vI r.Id), sl .v (r.Values.map ai)]), (false, [sl .v (o.map ai)])] (av [(false, [sl (.own 3 1) ((gV x r o).1.map ai)]), (false, [val (vI (gV x r o).2)])]) := by
 refine sF Tryz.func180 fun h0 w0 Fz0 => ?_
 refine sn 0 0 fun hl0_0 => ?_
 refine sn 0 1 fun hl0_1 => ?_
 refine sn 1 1 fun hl1_1 => ?_
 refine sj 2 fun hl2 => ?_
 have hx := yU hxo
 have hq := jl hx.1
 have ho := uM hoo
 have hrl := nC hro
 refine l9 ?_
 refine Hk ?_
 refine rK ?_
 refine sT [2, 3, 4, 6, 7] [3, 4] ?_
 refine qP ?_
 refine rA ?_ (x := cL [(false, [sl _ _])] [(false, [sl .v _])] PF (hs := by exact QH (by omega)))
 refine rA ?_ (x := tA)
 refine sS [2, 3, 4, 6, 7, 8] [3, 4] ?_
 refine eS ?_
 refine sS [2, 3, 4, 6, 7, 8, 9] [3, 4] ?_
 refine bw ?_
 refine sP [2, 3, 4, 6, 7, 8, 9, 10] [3, 4] ?_
 refine sL [2, 3, 4, 6, 7] [3, 4] (fun k : Nat => k ≤ o.length) (fun k : Nat => [(8, RV.slc (.own 3 1) ((dg x r o k).1.map ai)), (9, RV.int (dg x r o k).2), (10, RV.int (k : Int))]) (fun k : Nat => []) (fun k : Nat => o.length - k) 0 (by omega) (by exact aI (by exact rfl) (aI (by exact rfl) (aI (by exact rfl) (tI)))) (by exact ⟨⟩) ?_
 rintro k hk
 refine iK ?_
 refine rM ?_
 refine cx 19 (fun ga sga => ?_) (fun ga sga => ?_)
 refine rB ga ?_ (x := vM false [sl .v _])
 refine rB ga ?_ (x := lN a3)
 refine rB ga ?_ (x := dD)
 refine rA ?_ (x := aA ga)
 refine sc (fun hba => ?_) (fun hba => ?_)
 have hlt : k < o.length := (by first | omega | (simp_all; done) | (simp_all; omega))
 have hne : (dg x r o k).1 ≠ [] := by intro e; simp_all
 have hof := ho.2 o[k] (List.getElem_mem hlt)
 have hff : o[k].toNat < x.Fields.length := by omega
 have hrf : o[k].toNat < r.Values.length := by omega
 have hpl := uO hq.1 r o k
 have hxf := hx.2.2 o[k].toNat (by omega)
 have hsi := IW x.Queries (o[k].toNat : Int)
 rw [← hxf] at hsi
 have hss : ∀ s ∈ x.Fields.getD o[k].toNat [], s.Set.length ≤ 1048576 := fun s hs => Nat.le_trans (hsi.2 s hs) (by decide)
 have hfl := IY hsi.2 (fb r.Values o[k])
 have hpe := yV (x := x) (r := r) hlt hne
 refine cE ?_
 refine sQ [2, 3, 4, 6, 7, 8, 9, 10] [3, 4] ?_
 refine b9 bP ?_
 refine xR ?_
 refine dG ?_
 refine dA 12 ?_ (x := aD (by decide) a3 (by exact ⟨⟩) (by exact rfl) (by exact aE (by omega) rfl) (by exact rfl))
 refine dA 28 ?_ (x := lE [val _] aq)
 refine dA 63 ?_ (x := aD (k := o[k].toNat) (by decide) lO (by exact ⟨⟩) (by omega) (by exact aE hff (by rw [cX (d := ([] : List cd)) hff])) (by exact rfl))
 refine dA 127 ?_ (x := lE [sl .v _] u0)
 refine dA 0 ?_ (x := lF ip)
 refine dA 256 ?_ (x := lD [sl .v _] aZ)
 refine dG ?_
 refine dA 3072 ?_ (x := aD (by decide) a3 (by exact ⟨⟩) (by exact rfl) (by exact aE (by omega) rfl) (by exact rfl))
 refine dA 7168 ?_ (x := lE [val _] aq)
 refine dA 16128 ?_ (x := aD (k := o[k].toNat) (by decide) a3 (by exact ⟨⟩) (by omega) (by exact aE hrf (by rw [cX (d := (0 : Int)) hrf])) (by exact rfl))
 refine dA 32512 ?_ (x := lE [val _] aq)
 refine dA 65535 ?_ (x := cL [(false, [sl _ _]), (false, [val _])] [(false, [sl .v _]), (false, [val _])] PG (hs := by exact (QC (l := x.Fields.getD o[k].toNat []) (v := fb r.Values o[k]) hss)))
 refine dA 131071 ?_ (x := tA)
 refine sS [2, 3, 4, 6, 7, 8, 9, 10, 11] [3, 4] ?_
 refine rM ?_
 refine rA ?_ (x := gI)
 refine fZ ?_
 refine fZ ?_
 refine rA ?_ (x := vW (by decide) (by exact ⟨⟩) (by exact ⟨⟩))
 refine mW ?_
 refine sG [2, 3, 4, 6, 7, 8, 9, 10, 11] [3, 4] ?_
 refine rA ?_ (x := vM false [sl .v _])
 refine rA ?_ (x := vM false [sl .v _])
 refine rA ?_ (x := cL [(false, [sl _ _]), (false, [sl _ _])] [(false, [sl .v _]), (false, [sl .v _])] PH (hs := by exact Qw))
 refine rA ?_ (x := tA)
 refine sG [2, 3, 4, 6, 7, 8, 9, 10, 11] [3, 4] ?_
 refine bF ?_
 refine nx (k + 1) (by omega) (e := (by exact aI (by exact bg (by rw [hpe])) (aI (by exact bf (by rw [hpe])) (aI (by exact rfl) (tI)))))
 exact C0
 refine jJ ?_
 exact C0
end Go.Proofs.YtmekkgdboplbjaaGreat
