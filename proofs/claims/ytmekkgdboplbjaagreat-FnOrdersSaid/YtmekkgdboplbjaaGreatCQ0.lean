/- What functions of the program compute. No condition. -/
import Derived.Test.YtmekkgdboplbjaaGreatCN0
set_option linter.unusedVariables false
set_option linter.unusedSimpArgs false
namespace Go.Proofs.YtmekkgdboplbjaaGreat
open Go Go.RowKit M PV
set_option maxRecDepth 10000
attribute [local irreducible] PV.Lcl PV.LclR RV.Lcl
theorem Ku : cU Tryz.prog 124 = some [(0, 1), (1, 1)] := by kernel_rfl
theorem QN : cU Tryz.prog 268 = some [(0, 1), (1, 1), (2, 1)] := by kernel_rfl
theorem zx {p1 p2 : Fl} {l : List Query}  : aw Tryz.prog 237 [(false, [sl .v (l.map (cN p1 p2))])] (av [(false, [val (.bool (b7 l))])]) := by
 refine sF Tryz.func237 fun h0 w0 Fz0 => ?_
 refine sj 0 fun hl0 => ?_
 refine oN ?_
 refine mc ?_
 refine cj ?_
 refine sP [0, 2, 5, 6, 7] [] ?_
 refine sL [0, 5, 6] [] (fun k : Nat => k ≤ l.length ∧ gM jT bI jU l k = true) (fun k : Nat => [(7, RV.int (k : Int))]) (fun k : Nat => []) (fun k : Nat => l.length - k) 0 (by exact ⟨by omega, rfl⟩) (by exact aI (by exact rfl) (tI)) (by exact ⟨⟩) ?_
 rintro k ⟨hk, ha⟩
 refine bG ?_
 refine sc (fun hba => ?_) (fun hba => ?_)
 have hlt : k < l.length := by omega
 have hgk : l.getD k jT = l[k] := cY hlt
 have hgp : 0 < k → l.getD (k - 1) jT = l[k - 1] := fun h => cY (by omega)
 refine aT ?_
 refine sS [0, 5, 6, 7] [] ?_
 refine rM ?_
 refine oH ?_
 refine rX ?_ (x := (bB (by decide) gx nI))
 refine rS ?_
 refine xB ?_
 refine sQ [0, 3, 4, 5, 6, 7] [4] ?_
 refine b9 bP ?_
 refine dA 0 ?_ (x := lD [val _, val _, sl .v _, sl .v _] dp)
 refine dA 1 ?_ (x := cL [(true, [val _, val _, sl _ _, sl _ _])] [(true, [val _, val _, sl .v _, sl .v _])] yJ (hs := by exact zp))
 refine dA 3 ?_ (x := nT)
 refine dA 7 ?_ (x := sM)
 refine dx 15 (fun ga sga => ?_) (fun ga sga => ?_)
 refine dT 15 ga ?_
 refine dT 31 ga ?_
 refine dT 63 ga ?_
 refine dU 127 ?_
 refine dU 127 ?_
 refine dU 383 ?_
 refine dU 1023 ?_
 refine dU 2047 ?_
 refine dU 4095 ?_
 refine dU 127 ?_
 refine dU 8319 ?_
 refine dU 32767 ?_
 refine dT 65535 ga ?_
 refine dA 131071 ?_ (x := aA ga)
 refine bC ?_
 exact Di
 refine dB 15 ga ?_ (x := sM)
 refine dB 31 ga ?_ (x := dD)
 refine dB 63 ga ?_ (x := sM)
 refine dx 18 (fun gb sgb => ?_) (fun gb sgb => ?_)
 refine dB 127 gb ?_ (x := vM false [sl .v _])
 refine dB 127 gb ?_ (x := sM)
 refine dB 383 gb ?_ (x := er)
 refine dB 1023 gb ?_ (x := aD (k := k - 1) (by decide) gj (by exact ⟨⟩) (by omega) (by exact aE (by omega) rfl) (by exact rfl))
 refine dB 2047 gb ?_ (x := bl (by decide) gu (by exact nl rfl))
 refine dB 4095 gb ?_ (x := lE [val _] aq)
 refine dB 127 gb ?_ (x := lF gu)
 refine dB 8319 gb ?_ (x := lD [val _] aq)
 refine dB 32767 gb ?_ (x := gH)
 refine dB 65535 ga ?_ (x := aA gb)
 refine dA 131071 ?_ (x := ay ga)
 refine sc (fun hbb => ?_) (fun hbb => ?_)
 exact Di
 exact Dj
 refine dF 127 gb ?_
 refine dF 127 gb ?_
 refine dF 383 gb ?_
 refine dF 1023 gb ?_
 refine dF 2047 gb ?_
 refine dF 4095 gb ?_
 refine dF 127 gb ?_
 refine dF 8319 gb ?_
 refine dF 32767 gb ?_
 refine dB 65535 ga ?_ (x := ay gb)
 refine dA 131071 ?_ (x := ay ga)
 refine dk ?_
 exact Dj
 have hend : k = l.length := by omega
 have hall : cw jT bI jU l = true := lu ha hend
 refine aX ?_
 refine sS [0, 5, 6, 7] [] ?_
 exact CG
theorem QO {q : Query} {f : Int} {v : Int}  : aw Tryz.prog 230 [(true, [val (vI q.Id), val (vI q.Tenant), sl .v (q.Conds.map bR), sl .v (q.Out.map ai)]), (false, [val (vI f)]), (false, [val (vI v)])] (av [(false, [val (.bool (f6 q f v))])]) := by
 refine sF Tryz.func230 fun h0 w0 Fz0 => ?_
 refine sn 0 2 fun hl0_2 => ?_
 refine sn 0 3 fun hl0_3 => ?_
 refine l7 ?_
 refine eS ?_
 refine sT [1, 2, 3, 6] [3] ?_
 refine qY ?_
 refine cj ?_
 refine sP [1, 2, 3, 6, 10, 11, 12] [3] ?_
 refine sL [1, 2, 3, 10, 11] [3] (fun k : Nat => k ≤ q.Conds.length ∧ (q.Conds.take k).all (fI f v) = true) (fun k : Nat => [(12, RV.int (k : Int))]) (fun k : Nat => []) (fun k : Nat => q.Conds.length - k) 0 (by exact ⟨by omega, by simp⟩) (by exact aI (by exact rfl) (tI)) (by exact ⟨⟩) ?_
 rintro k ⟨hk, ha⟩
 refine bG ?_
 refine sc (fun hba => ?_) (fun hba => ?_)
 have hlt : k < q.Conds.length := by omega
 refine aT ?_
 refine sT [1, 2, 3, 10, 11, 12] [3] ?_
 refine Hh ?_
 refine rX ?_ (x := (bB (by decide) ly yP))
 refine HL ?_
 refine sO [(1, _), (2, _), (3, _), (8, _), (10, _), (11, _), (12, _)] [(3, _), (8, (178, [val _, val _, val _]))] ?_
 refine aM ?_
 refine rA ?_ (x := lF mm)
 refine rA ?_ (x := lD [val _] aq)
 refine oV ?_
 refine rM ?_
 refine cx 20 (fun ga sga => ?_) (fun ga sga => ?_)
 refine rB ga ?_ (x := sM)
 refine x4 ?_
 refine rB ga ?_ (x := lF pj)
 refine rB ga ?_ (x := lD [val _] aq)
 refine qz ?_
 refine rA ?_ (x := aA ga)
 refine sc (fun hbb => ?_) (fun hbb => ?_)
 have hno : fI f v q.Conds[k] = false := by simp_all [fI]
 refine sS [1, 2, 3, 8, 10, 11, 12] [3, 8] ?_
 exact CH
 exact Dk
 refine jJ ?_
 exact Dk
 have hall : q.Conds.all (fI f v) = true := ik (by rw [show q.Conds.length = k by omega]; exact ha)
 refine aX ?_
 refine sT [1, 2, 3, 10, 11, 12] [3] ?_
 exact CJ
theorem QP {p1 p2 : Fl} {l : List Query} {f : Int} {v : Int}  (hb : l.length ≤ 1048576) : aw Tryz.prog 275 [(false, [sl .v (l.map (cN p1 p2))]), (false, [val (vI f)]), (false, [val (vI v)])] (av [(false, [sl (.own 3 1) ((dL l f v).map ai)])]) := by
 refine sF Tryz.func275 fun h0 w0 Fz0 => ?_
 refine sj 0 fun hl0 => ?_
 refine jD ?_
 refine sS [0, 1, 2, 6] [] ?_
 refine kq ?_
 refine sS [0, 1, 2, 6, 7] [] ?_
 refine mc ?_
 refine cj ?_
 refine sP [0, 1, 2, 6, 7, 11, 12, 13] [] ?_
 refine sL [0, 1, 2, 6, 11, 12] [] (fun k : Nat => k ≤ l.length) (fun k : Nat => [(7, RV.slc (.own 3 1) ((dL (l.take k) f v).map ai)), (13, RV.int (k : Int))]) (fun k : Nat => []) (fun k : Nat => l.length - k) 0 (by omega) (by exact aI (by exact rfl) (aI (by exact rfl) (tI))) (by exact ⟨⟩) ?_
 rintro k hk
 refine bG ?_
 refine sc (fun hba => ?_) (fun hba => ?_)
 have hlt : k < l.length := by omega
 have hsl := rH (l.take k) f v
 rw [List.length_take] at hsl
 refine aT ?_
 refine sS [0, 1, 2, 6, 7, 11, 12, 13] [] ?_
 refine oH ?_
 refine qB ?_
 refine sT [0, 1, 2, 6, 7, 9, 11, 12, 13] [9] ?_
 refine rA ?_ (x := lD [val _, val _, sl .v _, sl .v _] dp)
 refine rM ?_
 refine GA ?_
 refine sc (fun hbb => ?_) (fun hbb => ?_)
 have hc := hbb
 refine sG [0, 1, 2, 6, 7, 9, 11, 12, 13] [9] ?_
 refine rA ?_ (x := tM)
 refine oM ?_
 refine i7 ?_
 exact Dl
 have hc := hbb
 refine aN ?_
 exact Dl
 have hend : k = l.length := by omega
 refine aX ?_
 refine sS [0, 1, 2, 6, 7, 11, 12, 13] [] ?_
 exact ov
theorem Kv {p1 p2 : Fl} {l : List Query} {f : Int}  : aw Tryz.prog 239 [(false, [sl .v (l.map (cN p1 p2))]), (false, [val (vI f)])] (av [(false, [sl (.own 268 3) ((df l f).map (f5 (.own 3 1)))])]) := by
 refine kX (largs := fun L => [(false, [sl (.lo L) (l.map (cN (.lo L) (.lo L)))]), (false, [val (vI f)])]) (rs := [(false, [sl (.own 268 3) ((df l f).map (f5 (.own 3 1)))])]) Tryz.func239 rfl (nl rfl) (fun L => by exact (aI (aI rfl (ah.cons (PV.tob_map (fun _ => nl rfl) (fun _ => (ah.cons PV.tob_refl (ah.cons PV.tob_refl (ah.cons (PV.tob_map (fun _ => nl rfl) (fun _ => (ah.cons PV.tob_refl (ah.cons PV.tob_refl (ah.cons PV.tob_refl ah.nil))))) (ah.cons (PV.tob_map (fun _ => nl rfl) (fun _ => (ah.cons PV.tob_refl ah.nil))) ah.nil)))))) ah.nil)) (aI (aI rfl (ah.cons PV.tob_refl ah.nil)) tI))) (fun L => by exact lq) ?_
 intro w0 Fz0
 refine sj 0 fun hl0 => ?_
 refine sR ?_
 refine Ik ?_
 refine i6 ?_
 refine sS [0, 1, 4, 5] [] ?_
 refine rA ?_ (x := vM false [sl (.lo _) _])
 refine rA ?_ (x := cL [(false, [sl (.lo _) _])] [(false, [sl .v _])] zg (hs := by exact zx))
 refine dI ?_
 refine cx 13 (fun ga sga => ?_) (fun ga sga => ?_)
 exact CL
 refine rB ga ?_ (x := sM)
 refine rB ga ?_ (x := cL [(false, [val _])] [(false, [val _])] yM (hs := by exact zm))
 refine oO ?_
 refine sc (fun hba => ?_) (fun hba => ?_)
 exact wR
 have hok : (b7 l && aB f 0 2) = true := by simp_all
 obtain ⟨hq, hf⟩ := Bool.and_eq_true_iff.1 hok
 have hq2 := jl hq
 refine dE ?_
 refine um ?_
 refine FW ?_
 rintro k hk
 refine bu ?_
 refine rA ?_ (x := eR)
 refine sc (fun hbb => ?_) (fun hbb => ?_)
 have hlt : k < 100 := by omega
 have hsl := uL l f k
 have hss := rH l f (k : Int)
 refine ub ?_
 refine rA ?_ (x := vM false [sl (.lo _) _])
 refine ku ?_
 refine rA ?_ (x := cL [(false, [sl (.lo _) _]), (false, [val _]), (false, [val _])] [(false, [sl .v _]), (false, [val _]), (false, [val _])] PP (hs := by exact (QP (l := l) (f := f) (v := (k : Int)) (by omega))))
 refine rA ?_ (x := tA)
 refine sS [0, 1, 4, 5, 6, 7] [] ?_
 refine kl ?_
 refine rS ?_
 refine sS [0, 1, 4, 5, 6, 7, 8] [] ?_
 refine rM ?_
 refine rm ?_
 refine cx 31 (fun gb sgb => ?_) (fun gb sgb => ?_)
 refine rB gb ?_ (x := vM false [sl .v _])
 refine yx ?_
 refine Gc ?_
 refine rB gb ?_ (x := lE [sl .v _] aZ)
 refine rB gb ?_ (x := vM false [sl .v _])
 refine rB gb ?_ (x := cL [(false, [sl _ _]), (false, [sl _ _])] [(false, [sl .v _]), (false, [sl .v _])] ID (hs := by exact Kn))
 refine rA ?_ (x := aA gb)
 refine sc (fun hbc => ?_) (fun hbc => ?_)
 have hls : gU (bH l f k) (dL l f (k : Int)) = true := IS (by omega) (by simpa using hbc)
 have hl1 : (bH l f k).length - 1 < (bH l f k).length := by omega
 refine sP [0, 1, 4, 5, 6, 7, 8] [] ?_
 refine wk (s := 5) (D := 900) (G := 2900) (E := 268) (e := 3) (L := (Lw w0.heap.size)) (es := ((bH l f k)).map (f5 (.own 3 1))) (by exact rfl) (hZ hl1) (by exact rfl) (by exact rfl) rfl (by exact rfl) (fun x hx => hx) (by exact lq) (by exact ⟨⟩) (ak.map fun x => (ak.cons lcl_val (ak.cons lcl_val (ak.cons (lcl_own (ak.map fun x => (ak.cons lcl_val ak.nil))) ak.nil)))) fun uu900 cp900 jk900 hlD900 hcp900 hjk900 => ?_
 rw [List.length_map] at hlD900 hcp900 hjk900
 refine cD (d := 900) (by exact rfl) (hY (k := ((bH l f k).length - 1)) hl1) ?_
 have hA900 := ia (f := (f5 (.own 3 1))) (e := 3) (xs := (bH l f k)) (k := ((bH l f k).length - 1)) (fun _ => rfl) (Nat.le_of_lt hl1)
 refine HG ?_
 refine rA ?_ (x := vM false [val _])
 refine rM ?_
 refine rA ?_ (x := er)
 refine rM ?_
 refine HB ?_
 refine E8 ?_
 refine sG [0, 1, 4, 5, 6, 7, 8] [] ?_
 exact Dm
 exact Dn
 refine nd ?_
 refine dk ?_
 exact Dn
 exact CO
theorem QQ {p1 : Fl} {l : List cd} {v : Int}  (hs : ∀ s ∈ l, s.Set.length ≤ 1048576) : aw Tryz.prog 241 [(false, [sl .v (l.map (f5 p1))]), (false, [val (vI v)])] (av [(false, [sl (.own 3 1) ((eL l v).map ai)])]) := by
 refine sF Tryz.func241 fun h0 w0 Fz0 => ?_
 refine sj 0 fun hl0 => ?_
 refine jD ?_
 refine aJ ?_
 refine sS [0, 1, 4] [] ?_
 refine kl ?_
 refine cj ?_
 refine sP [0, 1, 4, 7, 8, 9] [] ?_
 refine sL [0, 1, 7, 8] [] (fun k : Nat => k ≤ l.length ∧ (l.take k).any (eg v) = false) (fun k : Nat => [(9, RV.int (k : Int))]) (fun k : Nat => []) (fun k : Nat => l.length - k) 0 (by exact ⟨by omega, by simp⟩) (by exact aI (by exact rfl) (tI)) (by exact ⟨⟩) ?_
 rintro k ⟨hk, ha⟩
 refine bG ?_
 refine sc (fun hba => ?_) (fun hba => ?_)
 have hlt : k < l.length := by omega
 refine aT ?_
 refine sS [0, 1, 7, 8, 9] [] ?_
 refine G8 ?_
 refine rX ?_ (x := (bB (by decide) nU u4))
 refine rA ?_ (x := aQ (ag := true) (vs := [val _, val _, sl _ _]) zl (by exact ⟨⟩) (by exact rfl) (by exact nl rfl))
 refine sT [0, 1, 6, 7, 8, 9] [6] ?_
 refine rM ?_
 refine rA ?_ (x := lF pv)
 refine rA ?_ (x := lD [val _] aq)
 refine rA ?_ (x := lF nQ)
 refine tu ?_
 refine sc (fun hbb => ?_) (fun hbb => ?_)
 have hy : eg v l[k] = true := by simpa [eg] using hbb
 have hst := hs l[k] (List.getElem_mem hlt)
 refine sS [0, 1, 6, 7, 8, 9] [6] ?_
 refine rA ?_ (x := lF nR)
 refine HD ?_
 refine rA ?_ (x := tA)
 refine bY ?_
 exact (aI (by refine bg ?_; rw [IX hlt ha hy]) tI)
 have hno : eg v l[k] = false := by simpa [eg] using hbb
 refine aN ?_
 refine sG [0, 1, 6, 7, 8, 9] [6] ?_
 refine b5 ?_
 exact wS
 have hend : k = l.length := by omega
 rw [hend, List.take_length] at ha
 refine aX ?_
 refine sS [0, 1, 7, 8, 9] [] ?_
 refine rA ?_ (x := fj (.inr rfl) (by decide) (fR (t := 3) (e := 1)))
 exact CQ
theorem QR {p1 p3 : Fl} {x : List cd} {y : List cd}  : aw Tryz.prog 240 [(false, [sl .v (x.map (f5 p1))]), (false, [sl .v (y.map (f5 p3))])] (av [(false, [val (.bool (dl x y))])]) := by
 refine sF Tryz.func240 fun h0 w0 Fz0 => ?_
 refine sj 0 fun hl0 => ?_
 refine sj 1 fun hl1 => ?_
 refine kp ?_
 refine kl ?_
 refine kl ?_
 refine rA ?_ (x := co)
 refine sc (fun hba => ?_) (fun hba => ?_)
 exact ox
 have hl : x.length = y.length := by omega
 refine ni ?_
 refine kl ?_
 refine cj ?_
 refine sP [0, 1, 4, 12, 13, 14] [] ?_
 refine sL [0, 1, 12, 13] [] (fun k : Nat => k ≤ x.length ∧ x.take k = y.take k) (fun k : Nat => [(14, RV.int (k : Int))]) (fun k : Nat => []) (fun k : Nat => x.length - k) 0 (by exact ⟨by omega, by simp⟩) (by exact aI (by exact rfl) (tI)) (by exact ⟨⟩) ?_
 rintro k ⟨hk, ha⟩
 refine bG ?_
 refine sc (fun hbb => ?_) (fun hbb => ?_)
 have hlt : k < x.length := by omega
 have hlt2 : k < y.length := by omega
 refine aT ?_
 refine sS [0, 1, 12, 13, 14] [] ?_
 refine rM ?_
 refine G8 ?_
 refine rX ?_ (x := (bB (by decide) nU u4))
 refine rS ?_
 refine rA ?_ (x := aQ (ag := true) (vs := [val _, val _, sl _ _]) zl (by exact ⟨⟩) (by exact rfl) (by exact nl rfl))
 refine aJ ?_
 refine sQ [0, 1, 5, 6, 12, 13, 14] [6] ?_
 refine b9 bP ?_
 refine dA 0 ?_ (x := lF pv)
 refine dA 1 ?_ (x := lD [val _] aq)
 refine dG ?_
 refine dA 12 ?_ (x := aD (by decide) fw (by exact ⟨⟩) (by exact rfl) (by exact aE (by omega) rfl) (by exact rfl))
 refine dA 28 ?_ (x := bl (by decide) pv (by exact nl rfl))
 refine dA 60 ?_ (x := lE [val _] aq)
 refine dA 127 ?_ (x := co)
 refine dA 255 ?_ (x := sM)
 refine dx 27 (fun ga sga => ?_) (fun ga sga => ?_)
 refine dT 511 ga ?_
 refine dT 1023 ga ?_
 refine dT 511 ga ?_
 refine dT 511 ga ?_
 refine dT 6655 ga ?_
 refine dT 14847 ga ?_
 refine dT 31231 ga ?_
 refine dT 65535 ga ?_
 refine dA 131071 ?_ (x := aA ga)
 refine dA 262143 ?_ (x := sM)
 refine a4.cases (s := 37) rfl (fun g4 => ?_) (fun g4 => nomatch g4)
 refine dT 524287 g4 ?_
 refine dT 1048575 g4 ?_
 refine dT 524287 g4 ?_
 refine dT 524287 g4 ?_
 refine dT 6815743 g4 ?_
 refine dT 15204351 g4 ?_
 refine dT 31981567 g4 ?_
 refine dT 67108863 g4 ?_
 refine dT 134217727 g4 ?_
 refine dA 268435455 ?_ (x := aA g4)
 exact Do
 refine dB 511 ga ?_ (x := lF nQ)
 refine dB 1023 ga ?_ (x := lD [val _] aq)
 refine dB 511 ga ?_ (x := vM false [sl .v _])
 refine dB 511 ga ?_ (x := sM)
 refine dB 6655 ga ?_ (x := aD (by decide) fw (by exact ⟨⟩) (by exact rfl) (by exact aE (by omega) rfl) (by exact rfl))
 refine dB 14847 ga ?_ (x := bl (by decide) nQ (by exact nl rfl))
 refine dB 31231 ga ?_ (x := lE [val _] aq)
 refine dB 65535 ga ?_ (x := co)
 refine dA 131071 ?_ (x := ay ga)
 refine dA 262143 ?_ (x := sM)
 refine dx 37 (fun gb sgb => ?_) (fun gb sgb => ?_)
 refine dT 524287 gb ?_
 refine dT 1048575 gb ?_
 refine dT 524287 gb ?_
 refine dT 524287 gb ?_
 refine dT 6815743 gb ?_
 refine dT 15204351 gb ?_
 refine dT 31981567 gb ?_
 refine dT 67108863 gb ?_
 refine dT 134217727 gb ?_
 refine dA 268435455 ?_ (x := aA gb)
 exact Do
 refine dB 524287 gb ?_ (x := lF nR)
 refine dB 1048575 gb ?_ (x := lD [sl .v _] aZ)
 refine dB 524287 gb ?_ (x := vM false [sl .v _])
 refine dB 524287 gb ?_ (x := sM)
 refine dB 6815743 gb ?_ (x := aD (by decide) fw (by exact ⟨⟩) (by exact rfl) (by exact aE (by omega) rfl) (by exact rfl))
 refine dB 15204351 gb ?_ (x := bl (by decide) nR (by exact nl rfl))
 refine dB 31981567 gb ?_ (x := lE [sl .v _] aZ)
 refine dB 67108863 gb ?_ (x := cL [(false, [sl _ _]), (false, [sl _ _])] [(false, [sl .v _]), (false, [sl .v _])] ID (hs := by exact Kn))
 refine dB 134217727 gb ?_ (x := nT)
 refine dA 268435455 ?_ (x := ay gb)
 refine sc (fun hbc => ?_) (fun hbc => ?_)
 refine sS [0, 1, 5, 6, 12, 13, 14] [6] ?_
 exact ta
 refine aN ?_
 refine sG [0, 1, 5, 6, 12, 13, 14] [6] ?_
 refine b5 ?_
 exact CR
 refine aX ?_
 refine sS [0, 1, 12, 13, 14] [] ?_
 exact wQ
theorem Kw {x : Query}  (hb : d9 x ≤ 68719476736) : aw Tryz.prog 190 [(true, [val (vI x.Id), val (vI x.Tenant), sl .v (x.Conds.map bR), sl .v (x.Out.map ai)])] (av [(true, [val (vI x.Id), val (vI x.Tenant), sl (.own 178 3) (x.Conds.map bR), sl (.own 3 1) (x.Out.map ai)])]) := by
 refine sF Tryz.func190 fun h0 w0 Fz0 => ?_
 refine sn 0 2 fun hl0_2 => ?_
 refine sn 0 3 fun hl0_3 => ?_
 have hbu := hb
 simp only [d9, cu, aV, rr] at hbu
 refine l7 ?_
 refine rX ?_ (x := (bB (by decide) gx nI))
 refine sT [1, 2] [1, 2] ?_
 refine rA ?_ (x := bd (qs := []) (by decide) gv ly (by decide) rfl rfl rfl rfl rfl (by exact nl rfl) (by exact ⟨⟩) rfl)
 refine rA ?_ (x := lF iO)
 refine rA ?_ (x := lD [sl .v _] iP)
 refine rA ?_ (x := gp (by decide) gv ly rfl rfl (by decide) (by first | (intro cs hcs; obtain ⟨x, _, rfl⟩ := List.mem_map.1 hcs; exact rfl) | simp) (by first | (intro cs hcs; obtain ⟨x, _, rfl⟩ := List.mem_map.1 hcs; exact (ae.cons (bor_val _) (ae.cons (bor_val _) (ae.cons (bor_val _) ae.nil)))) | simp) (by simp only [List.length_map, List.length_append, List.length_cons, List.length_nil]; omega) (by simp only [List.length_map, List.length_append, List.length_cons, List.length_nil]; omega))
 refine HH ?_
 refine aJ ?_
 refine Ii ?_
 refine rA ?_ (x := lF kD)
 refine HD ?_
 refine rA ?_ (x := lF kD)
 refine oJ ?_
 refine Ii ?_
 refine FD ?_
 exact CS
theorem QT {p1 p2 : Fl} {x : List Query}  (hb : pf x ≤ 68719476736) : aw Tryz.prog 238 [(false, [sl .v (x.map (cN p1 p2))])] (av [(false, [sl (.own 52 4) (x.map (cN (.own 178 3) (.own 3 1)))])]) := by
 refine sF Tryz.func238 fun h0 w0 Fz0 => ?_
 refine sj 0 fun hl0 => ?_
 have hbu := hb
 simp only [pf] at hbu
 refine sR ?_
 refine Ie ?_
 refine qC ?_
 refine aJ ?_
 refine sS [0, 2, 3] [] ?_
 refine mc ?_
 refine cj ?_
 refine sP [0, 2, 3, 7, 8, 9] [] ?_
 refine sL [0, 2, 7, 8] [] (fun k : Nat => k ≤ x.length) (fun k : Nat => [(3, RV.slc (.own 52 4) ((x.take k).map (cN (.own 178 3) (.own 3 1)))), (9, RV.int (k : Int))]) (fun k : Nat => []) (fun k : Nat => x.length - k) 0 (by omega) (by exact aI (by first | exact rfl | simp) (aI (by exact rfl) (tI))) (by exact ⟨⟩) ?_
 rintro k hk
 refine bG ?_
 refine sc (fun hba => ?_) (fun hba => ?_)
 have hlt : k < x.length := by omega
 have hwm := cR (f := d9) hlt
 have htl : (x.take k).length = k := by rw [List.length_take]; omega
 refine aT ?_
 refine sS [0, 2, 3, 7, 8, 9] [] ?_
 refine oH ?_
 refine qB ?_
 refine sH [0, 2, 3, 5, 7, 8, 9] [5] ?_
 refine rA ?_ (x := tM)
 refine rA ?_ (x := lD [val _, val _, sl .v _, sl .v _] dp)
 refine rA ?_ (x := cL [(true, [val _, val _, sl _ _, sl _ _])] [(true, [val _, val _, sl .v _, sl .v _])] JM (hs := by exact Kw (by omega)))
 refine Fw ?_
 exact Ca
 exact Cb
theorem QU {p1 p2 : Fl} {l : List Query}  : aw Tryz.prog 172 [(false, [sl .v (l.map (cN p1 p2))])] (av [(true, [sl (.own 52 4) ((eW l).Queries.map (cN (.own 178 3) (.own 3 1))), sl (.own 243 1) ((eW l).Fields.map (iM (.own 268 3) (.own 3 1)))])]) := by
 refine sF Tryz.func172 fun h0 w0 Fz0 => ?_
 refine sj 0 fun hl0 => ?_
 refine sR ?_
 refine rX ?_ (x := (bB (by decide) my mz))
 refine aJ ?_
 refine sT [0, 2] [2] ?_
 refine rA ?_ (x := vM false [sl .v _])
 refine rA ?_ (x := cL [(false, [sl _ _])] [(false, [sl .v _])] zg (hs := by exact zx))
 refine rA ?_ (x := nT)
 refine sc (fun hba => ?_) (fun hba => ?_)
 have hok : b7 l = false := by simpa using hba
 refine sS [0, 2] [2] ?_
 refine rA ?_ (x := cv (qs := []) (cs := [sl _ _, sl _ _]) (by decide) my mz Ku (by exact rfl) (by exact ⟨⟩) rfl (by exact rfl))
 exact CT
 have hok : b7 l = true := by simpa using hba
 have hqw := I3 hok
 have hql := jl hok
 refine aN ?_
 refine sS [0, 2] [2] ?_
 refine rA ?_ (x := vM false [sl .v _])
 refine rA ?_ (x := cL [(false, [sl _ _])] [(false, [sl .v _])] Py (hs := by exact QT (by omega)))
 refine rA ?_ (x := cv (qs := [(false, [sl _ _])]) (cs := [sl _ _, sl _ _]) (by decide) my mz Ku (by exact rfl) (by exact (aI (by exact ⟨⟩) tI)) rfl (by exact rfl))
 refine mX ?_
 refine dH ?_
 refine sO [(0, _), (2, _), (3, _)] [(2, _), (3, (124, [sl _ _, sl _ _]))] ?_
 refine oX ?_
 refine FP ?_
 rintro k hk
 refine nh ?_
 refine sc (fun hbb => ?_) (fun hbb => ?_)
 have hlt : k < 3 := by omega
 have hfl := I4 (l := l) (k := k)
 refine aT ?_
 refine sQ [0, 2, 3, 4] [2, 3] ?_
 refine b9 bP ?_
 refine Gi ?_
 refine dG ?_
 refine dA 12 ?_ (x := cL [(false, [sl _ _]), (false, [val _])] [(false, [sl .v _]), (false, [val _])] JP (hs := by exact Kv))
 exact CU
 exact CV
theorem QV {p1 p2 p4 p5 : Fl} {x : bS}  : aw Tryz.prog 173 [(true, [sl .v (x.Queries.map (cN p1 p2)), sl .v (x.Fields.map (iM p4 p5))])] (av [(false, [val (.bool (cy x))])]) := by
 refine sF Tryz.func173 fun h0 w0 Fz0 => ?_
 refine sn 0 0 fun hl0_0 => ?_
 refine sn 0 1 fun hl0_1 => ?_
 refine l9 ?_
 refine ie ?_
 refine qP ?_
 refine rA ?_ (x := cL [(false, [sl _ _])] [(false, [sl .v _])] zg (hs := by exact zx))
 refine dI ?_
 refine cx 9 (fun ga sga => ?_) (fun ga sga => ?_)
 exact CW
 refine rB ga ?_ (x := lF pu)
 refine rB ga ?_ (x := lD [sl .v _] px)
 refine rB ga ?_ (x := lN lO)
 refine yr ?_
 refine sc (fun hba => ?_) (fun hba => ?_)
 exact wT
 have hpr : (b7 x.Queries && decide (x.Fields.length = 3)) = true := by first | (simp_all; done) | (simp_all; omega)
 have hf3 : x.Fields.length = 3 := of_decide_eq_true (Bool.and_eq_true_iff.1 hpr).2
 refine nq ?_
 refine rA ?_ (x := lF pu)
 refine rA ?_ (x := lD [sl .v _] px)
 refine rA ?_ (x := lN lO)
 refine cj ?_
 refine sP [1, 2, 16, 17, 18] [1] ?_
 refine sL [1, 16, 17] [1] (fun k : Nat => k ≤ x.Fields.length ∧ mr x k = true) (fun k : Nat => [(18, RV.int (k : Int))]) (fun k : Nat => []) (fun k : Nat => x.Fields.length - k) 0 (by exact ⟨by omega, rfl⟩) (by exact aI (by exact rfl) (tI)) (by exact ⟨⟩) ?_
 rintro k ⟨hk, ha⟩
 refine bG ?_
 refine sc (fun hbb => ?_) (fun hbb => ?_)
 have hlt : k < x.Fields.length := by omega
 have hgk := cX (d := ([] : List cd)) hlt
 refine aT ?_
 refine sT [1, 16, 17, 18] [1] ?_
 refine rM ?_
 refine rA ?_ (x := aD (by decide) lO (by exact ⟨⟩) (by exact rfl) (by exact aE (by omega) rfl) (by exact rfl))
 refine rA ?_ (x := lE [sl .v _] u0)
 refine rS ?_
 refine rA ?_ (x := vA false [sl .v _])
 refine sS [1, 3, 4, 16, 17, 18] [1] ?_
 refine rA ?_ (x := vM false [sl .v _])
 refine qP ?_
 refine rM ?_
 refine rA ?_ (x := cL [(false, [sl _ _]), (false, [val _])] [(false, [sl .v _]), (false, [val _])] JP (hs := by exact Kv))
 refine rA ?_ (x := cL [(false, [sl _ _]), (false, [sl _ _])] [(false, [sl .v _]), (false, [sl .v _])] Pz (hs := by exact QR))
 refine rA ?_ (x := nT)
 refine sc (fun hbc => ?_) (fun hbc => ?_)
 have hd : dl (x.Fields.getD k []) (df x.Queries (k : Int)) = false := by rw [← hgk]; simpa using hbc
 refine sS [1, 3, 4, 16, 17, 18] [1] ?_
 refine bD ?_
 exact rb ((IZ (by omega) hd).symm)
 have hd : dl (x.Fields.getD k []) (df x.Queries (k : Int)) = true := by rw [← hgk]; simpa using hbc
 refine aN ?_
 refine sG [1, 3, 4, 16, 17, 18] [1] ?_
 refine b5 ?_
 exact CX
 have hend : k = 3 := by omega
 rw [hend] at ha
 refine aX ?_
 refine sT [1, 16, 17, 18] [1] ?_
 exact CY
theorem QW {p1 p2 p4 p5 : Fl} {x : bS} {r : Row} {o : List Int}  (hxo : cy x = true) (hro : bm r = true) (hoo : bK o = true) : aw Tryz.prog 175 [(true, [sl .v (x.Queries.map (cN p1 p2)), sl .v (x.Fields.map (iM p4 p5))]), (true, [val (vI r.Id), sl .v (r.Values.map ai)]), (false, [sl .v (o.map ai)])] (av [(false, [sl (.own 3 1) ((gV x r o).1.map ai)]), (false, [val (vI (gV x r o).2)])]) := by
 refine sF Tryz.func175 fun h0 w0 Fz0 => ?_
 refine sn 0 0 fun hl0_0 => ?_
 refine sn 0 1 fun hl0_1 => ?_
 refine sn 1 1 fun hl1_1 => ?_
 refine sj 2 fun hl2 => ?_
 have hx := yU hxo
 have hq := jl hx.1
 have ho := uM hoo
 have hrl := nC hro
 refine l9 ?_
 refine Hk ?_
 refine rK ?_
 refine sT [2, 3, 4, 6, 7] [3, 4] ?_
 refine kq ?_
 refine sS [2, 3, 4, 6, 7, 8] [3, 4] ?_
 refine qP ?_
 refine rA ?_ (x := lN gj)
 refine cj ?_
 refine sP [2, 3, 4, 6, 7, 8, 17, 18, 19] [3, 4] ?_
 refine sL [2, 3, 4, 6, 7, 17, 18] [3, 4] (fun k : Nat => k ≤ x.Queries.length) (fun k : Nat => [(8, RV.slc (.own 3 1) ((jm (x.Queries.take k)).map ai)), (19, RV.int (k : Int))]) (fun k : Nat => []) (fun k : Nat => x.Queries.length - k) 0 (by omega) (by exact aI (by exact rfl) (aI (by exact rfl) (tI))) (by exact ⟨⟩) ?_
 rintro k hk
 refine bG ?_
 refine sc (fun hba => ?_) (fun hba => ?_)
 have hltq : k < x.Queries.length := by omega
 have htl : (jm (x.Queries.take k)).length = k := by unfold jm; rw [List.length_map, List.length_take]; omega
 refine aT ?_
 refine sT [2, 3, 4, 6, 7, 8, 17, 18, 19] [3, 4] ?_
 refine oH ?_
 refine qB ?_
 refine sO [(2, _), (3, _), (4, _), (6, _), (7, _), (8, _), (10, _), (17, _), (18, _), (19, _)] [(3, _), (4, _), (10, (52, [val _, val _, sl _ _, sl _ _]))] ?_
 refine aM ?_
 refine rA ?_ (x := tM)
 refine oM ?_
 refine i7 ?_
 refine sG [2, 3, 4, 6, 7, 8, 10, 17, 18, 19] [3, 4, 10] ?_
 refine b5 ?_
 refine nx (k + 1) (by omega) (e := (by exact aI (by exact bg (by unfold jm; rw [pg hltq, List.map_append]; rfl)) (aI (by exact rfl) (tI))))
 have hendq : k = x.Queries.length := by omega
 refine aX ?_
 refine sT [2, 3, 4, 6, 7, 8, 17, 18, 19] [3, 4] ?_
 refine eS ?_
 refine sS [2, 3, 4, 6, 7, 8, 11, 17, 18, 19] [3, 4] ?_
 refine oZ ?_
 refine sP [2, 3, 4, 6, 7, 8, 11, 17, 18, 19, 29, 30, 31] [3, 4] ?_
 refine sL [2, 3, 4, 6, 7, 17, 18, 19, 29, 30] [3, 4] (fun k : Nat => k ≤ o.length) (fun k : Nat => [(8, RV.slc (.own 3 1) ((dg x r o k).1.map ai)), (11, RV.int (dg x r o k).2), (31, RV.int (k : Int))]) (fun k : Nat => []) (fun k : Nat => o.length - k) 0 (by omega) (by exact aI (by exact bg (by rw [hendq, List.take_length]; rfl)) (aI (by exact rfl) (aI (by exact rfl) (tI)))) (by exact ⟨⟩) ?_
 rintro k hk
 refine bG ?_
 refine sc (fun hbb => ?_) (fun hbb => ?_)
 have hlt : k < o.length := by omega
 have hof := ho.2 o[k] (List.getElem_mem hlt)
 have hff : o[k].toNat < x.Fields.length := by omega
 have hrf : o[k].toNat < r.Values.length := by omega
 have hpl := uO hq.1 r o k
 have hxf := hx.2.2 o[k].toNat (by omega)
 have hsi := IW x.Queries (o[k].toNat : Int)
 rw [← hxf] at hsi
 have hss : ∀ s ∈ x.Fields.getD o[k].toNat [], s.Set.length ≤ 1048576 := fun s hs => Nat.le_trans (hsi.2 s hs) (by decide)
 have hfl := IY hsi.2 (fb r.Values o[k])
 refine aT ?_
 refine sT [2, 3, 4, 6, 7, 8, 11, 17, 18, 19, 29, 30, 31] [3, 4] ?_
 refine ti ?_
 refine ig ?_
 refine sS [2, 3, 4, 6, 7, 8, 11, 13, 17, 18, 19, 29, 30, 31] [3, 4] ?_
 refine fZ ?_
 refine rA ?_ (x := dY)
 refine sc (fun hbc => ?_) (fun hbc => ?_)
 have hpe := uN (x := x) (r := r) (o := o) (k := k) (.inr (by rw [← List.length_eq_zero_iff]; first | omega | (simp_all; done)))
 refine aX ?_
 refine sS [2, 3, 4, 6, 7, 8, 11, 13, 17, 18, 19, 29, 30, 31] [3, 4] ?_
 exact wU
 have hne : (dg x r o k).1 ≠ [] := by intro e; simp_all
 have hpe := yV (x := x) (r := r) hlt hne
 refine dE ?_
 refine sP [2, 3, 4, 6, 7, 8, 11, 13, 17, 18, 19, 29, 30, 31] [3, 4] ?_
 refine b9 bP ?_
 refine xR ?_
 refine dA 0 ?_ (x := sM)
 refine dA 7 ?_ (x := aD (k := o[k].toNat) (by decide) lO (by exact ⟨⟩) (by omega) (by exact aE hff (by rw [cX (d := ([] : List cd)) hff])) (by exact rfl))
 refine dA 15 ?_ (x := lE [sl .v _] u0)
 refine dA 0 ?_ (x := lF ip)
 refine dA 32 ?_ (x := lD [sl .v _] aZ)
 refine dA 0 ?_ (x := sM)
 refine dA 224 ?_ (x := aD (k := o[k].toNat) (by decide) a3 (by exact ⟨⟩) (by omega) (by exact aE hrf (by rw [cX (d := (0 : Int)) hrf])) (by exact rfl))
 refine dA 480 ?_ (x := lE [val _] aq)
 refine dA 1023 ?_ (x := cL [(false, [sl _ _]), (false, [val _])] [(false, [sl .v _]), (false, [val _])] PA (hs := by exact (QQ (l := x.Fields.getD o[k].toNat []) (v := fb r.Values o[k]) hss)))
 refine dA 2047 ?_ (x := tA)
 refine sS [2, 3, 4, 6, 7, 8, 11, 13, 14, 17, 18, 19, 29, 30, 31] [3, 4] ?_
 refine rM ?_
 refine fZ ?_
 refine fZ ?_
 refine rA ?_ (x := vW (by decide) (by exact ⟨⟩) (by exact ⟨⟩))
 refine rA ?_ (x := gI)
 refine mW ?_
 refine sG [2, 3, 4, 6, 7, 8, 11, 13, 14, 17, 18, 19, 29, 30, 31] [3, 4] ?_
 refine rA ?_ (x := vM false [sl .v _])
 refine rA ?_ (x := vM false [sl .v _])
 refine rA ?_ (x := cL [(false, [sl _ _]), (false, [sl _ _])] [(false, [sl .v _]), (false, [sl .v _])] PB (hs := by exact Qv))
 refine rA ?_ (x := tA)
 refine sG [2, 3, 4, 6, 7, 8, 11, 13, 14, 17, 18, 19, 29, 30, 31] [3, 4] ?_
 refine b5 ?_
 refine nx (k + 1) (by omega) (e := (by exact aI (by exact bg (by rw [hpe])) (aI (by exact bf (by rw [hpe]; dsimp only; omega)) (aI (by exact rfl) (tI)))))
 have hpe := uN (x := x) (r := r) (.inl (show k = o.length by omega))
 refine aX ?_
 refine sT [2, 3, 4, 6, 7, 8, 11, 17, 18, 19, 29, 30, 31] [3, 4] ?_
 exact wU
end Go.Proofs.YtmekkgdboplbjaaGreat
