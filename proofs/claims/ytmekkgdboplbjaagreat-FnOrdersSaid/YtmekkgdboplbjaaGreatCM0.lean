/- What functions of the program compute. No condition. -/
import Derived.Test.YtmekkgdboplbjaaGreatCH0
import Derived.Test.YtmekkgdboplbjaaGreatCK0
import Derived.Test.YtmekkgdboplbjaaGreatCL0
set_option linter.unusedVariables false
set_option linter.unusedSimpArgs false
namespace Go.Proofs.YtmekkgdboplbjaaGreat
open Go Go.RowKit M PV
set_option maxRecDepth 10000
attribute [local irreducible] PV.Lcl PV.LclR RV.Lcl
theorem Qy : cU Tryz.prog 268 = some [(0, 1), (1, 1), (2, 1)] := by kernel_rfl
theorem Qz : cU Tryz.prog 52 = some [(0, 1), (1, 1), (2, 1), (3, 1)] := by kernel_rfl
theorem u9 {p1 p2 : Fl} {l : List Query}  : aw Tryz.prog 244 [(false, [sl .v (l.map (cN p1 p2))])] (av [(false, [val (.bool (b7 l))])]) := by
 refine sF Tryz.func244 fun h0 w0 Fz0 => ?_
 refine sj 0 fun hl0 => ?_
 refine o6 ?_
 refine sL [0] [] (fun k : Nat => k ≤ l.length ∧ gM jT bI jU l k = true) (fun k : Nat => [(3, RV.int (k : Int))]) (fun k : Nat => []) (fun k : Nat => l.length - k) 0 (by exact ⟨by omega, rfl⟩) (by exact aI (by exact rfl) (tI)) (by exact ⟨⟩) ?_
 rintro k ⟨hk, ha⟩
 refine bu ?_
 refine mc ?_
 refine rA ?_ (x := cb)
 refine sc (fun hba => ?_) (fun hba => ?_)
 have hlt : k < l.length := by omega
 have hgk : l.getD k jT = l[k] := cY hlt
 have hgp : 0 < k → l.getD (k - 1) jT = l[k - 1] := fun h => cY (by omega)
 refine cE ?_
 refine sP [0, 3] [] ?_
 refine md ?_
 refine dA 3 ?_ (x := aD (by decide) gj (by exact ⟨⟩) (by exact rfl) (by exact aE (by omega) rfl) (by exact rfl))
 refine dA 7 ?_ (x := lE [val _, val _, sl .v _, sl .v _] dp)
 refine dA 15 ?_ (x := cL [(true, [val _, val _, sl _ _, sl _ _])] [(true, [val _, val _, sl .v _, sl .v _])] uC (hs := by exact u7))
 refine dA 31 ?_ (x := nT)
 refine dA 63 ?_ (x := sM)
 refine dx 16 (fun ga sga => ?_) (fun ga sga => ?_)
 refine dT 127 ga ?_
 refine dT 255 ga ?_
 refine dT 511 ga ?_
 refine oW ?_
 refine rq ?_
 refine dU 16383 ?_
 refine oW ?_
 refine dU 66559 ?_
 refine dU 230399 ?_
 refine dU 492543 ?_
 refine dU 1016831 ?_
 refine dU 2097151 ?_
 refine qU ?_
 refine bC ?_
 exact CD
 refine ym ?_
 refine dB 511 ga ?_ (x := sM)
 refine dx 19 (fun gb sgb => ?_) (fun gb sgb => ?_)
 refine oK ?_
 refine dB 4095 gb ?_ (x := aD (by decide) gj (by exact ⟨⟩) (by exact rfl) (by exact aE (by omega) rfl) (by exact rfl))
 refine dB 8191 gb ?_ (x := bl (by decide) gu (by exact nl rfl))
 refine dB 16383 gb ?_ (x := lE [val _] aq)
 refine oK ?_
 refine dB 66559 gb ?_ (x := er)
 refine dB 230399 gb ?_ (x := aD (k := k - 1) (by decide) gj (by exact ⟨⟩) (by omega) (by exact aE (by omega) rfl) (by exact rfl))
 refine dB 492543 gb ?_ (x := bl (by decide) gu (by exact nl rfl))
 refine dB 1016831 gb ?_ (x := lE [val _] aq)
 refine xZ ?_
 refine dA 8388607 ?_ (x := ay ga)
 refine sc (fun hbb => ?_) (fun hbb => ?_)
 exact CD
 exact CF
 refine oT ?_
 refine dF 4095 gb ?_
 refine dF 8191 gb ?_
 refine dF 16383 gb ?_
 refine oT ?_
 refine dF 66559 gb ?_
 refine dF 230399 gb ?_
 refine dF 492543 gb ?_
 refine dF 1016831 gb ?_
 refine dF 2097151 gb ?_
 refine ya ?_
 refine dk ?_
 exact CF
 have hend : k = l.length := by omega
 have hall : cw jT bI jU l = true := lu ha hend
 refine ng ?_
 exact CG
theorem QA {q : Query} {f : Int} {v : Int}  : aw Tryz.prog 283 [(true, [val (vI q.Id), val (vI q.Tenant), sl .v (q.Conds.map bR), sl .v (q.Out.map ai)]), (false, [val (vI f)]), (false, [val (vI v)])] (av [(false, [val (.bool (f6 q f v))])]) := by
 refine sF Tryz.func283 fun h0 w0 Fz0 => ?_
 refine sn 0 2 fun hl0_2 => ?_
 refine sn 0 3 fun hl0_3 => ?_
 refine l7 ?_
 refine eS ?_
 refine sT [1, 2, 3, 6] [3] ?_
 refine bw ?_
 refine sP [1, 2, 3, 6, 7] [3] ?_
 refine sL [1, 2, 3] [3] (fun k : Nat => k ≤ q.Conds.length ∧ (q.Conds.take k).all (fI f v) = true) (fun k : Nat => [(7, RV.int (k : Int))]) (fun k : Nat => []) (fun k : Nat => q.Conds.length - k) 0 (by exact ⟨by omega, by simp⟩) (by exact aI (by exact rfl) (tI)) (by exact ⟨⟩) ?_
 rintro k ⟨hk, ha⟩
 refine bu ?_
 refine qY ?_
 refine rA ?_ (x := cb)
 refine sc (fun hba => ?_) (fun hba => ?_)
 have hlt : k < q.Conds.length := by omega
 refine cE ?_
 refine sQ [1, 2, 3, 7] [3] ?_
 refine b9 bP ?_
 refine x5 ?_
 refine xC ?_
 refine dA 15 ?_ (x := bl (by decide) mm (by exact nl rfl))
 refine dA 31 ?_ (x := lE [val _] aq)
 refine dA 0 ?_ (x := sM)
 refine dA 127 ?_ (x := dY)
 refine dA 255 ?_ (x := sM)
 refine dx 23 (fun ga sga => ?_) (fun ga sga => ?_)
 refine dB 511 ga ?_ (x := sM)
 refine dB 511 ga ?_ (x := lF iO)
 refine dB 1535 ga ?_ (x := lD [sl .v _] iP)
 refine dB 511 ga ?_ (x := sM)
 refine dB 7679 ga ?_ (x := aD (by decide) gv (by exact ⟨⟩) (by exact rfl) (by exact aE (by omega) rfl) (by exact rfl))
 refine dB 15871 ga ?_ (x := bl (by decide) yN (by exact nl rfl))
 refine dB 32255 ga ?_ (x := lE [val _] aq)
 refine dB 511 ga ?_ (x := lF iO)
 refine dB 66047 ga ?_ (x := lD [sl .v _] iP)
 refine dB 511 ga ?_ (x := sM)
 refine dB 459263 ga ?_ (x := aD (by decide) gv (by exact ⟨⟩) (by exact rfl) (by exact aE (by omega) rfl) (by exact rfl))
 refine dB 983551 ga ?_ (x := bl (by decide) pj (by exact nl rfl))
 refine dB 2032127 ga ?_ (x := lE [val _] aq)
 refine dB 4194303 ga ?_ (x := cL [(false, [val _]), (false, [val _]), (false, [val _])] [(false, [val _]), (false, [val _]), (false, [val _])] eT (hs := by exact eZ))
 refine dB 8388607 ga ?_ (x := nT)
 refine dA 16777215 ?_ (x := aA ga)
 refine sc (fun hbb => ?_) (fun hbb => ?_)
 have hno : fI f v q.Conds[k] = false := by simp_all [fI]
 refine sS [1, 2, 3, 7] [3] ?_
 exact CH
 exact CI
 refine dF 511 ga ?_
 refine dF 511 ga ?_
 refine dF 1535 ga ?_
 refine dF 511 ga ?_
 refine dF 7679 ga ?_
 refine dF 15871 ga ?_
 refine dF 32255 ga ?_
 refine dF 511 ga ?_
 refine dF 66047 ga ?_
 refine dF 511 ga ?_
 refine dF 459263 ga ?_
 refine dF 983551 ga ?_
 refine dF 2032127 ga ?_
 refine dF 4194303 ga ?_
 refine dF 8388607 ga ?_
 refine dA 16777215 ?_ (x := ay ga)
 refine dk ?_
 exact CI
 have hall : q.Conds.all (fI f v) = true := ik (by rw [show q.Conds.length = k by omega]; exact ha)
 refine aX ?_
 refine sT [1, 2, 3, 7] [3] ?_
 exact CJ
theorem QB {p1 p2 : Fl} {l : List Query} {f : Int} {v : Int}  : aw Tryz.prog 279 [(false, [sl .v (l.map (cN p1 p2))]), (false, [val (vI f)]), (false, [val (vI v)])] (av [(false, [sl (.own 3 1) ((uK l f v).map ai)])]) := by
 refine sF Tryz.func279 fun h0 w0 Fz0 => ?_
 refine sj 0 fun hl0 => ?_
 refine jD ?_
 refine sS [0, 1, 2, 6] [] ?_
 refine kq ?_
 refine sS [0, 1, 2, 6, 7] [] ?_
 refine bw ?_
 refine sP [0, 1, 2, 6, 7, 8] [] ?_
 refine sL [0, 1, 2, 6] [] (fun k : Nat => k ≤ l.length ∧ (0 < k → (b7 l && (aB f 0 2 && aB v 0 99)) = true)) (fun k : Nat => [(7, RV.slc (.own 3 1) ((dL (l.take k) f v).map ai)), (8, RV.int (k : Int))]) (fun k : Nat => []) (fun k : Nat => l.length - k) 0 (by exact ⟨by omega, fun h => absurd h (Nat.lt_irrefl 0)⟩) (by exact aI (by exact rfl) (aI (by exact rfl) (tI))) (by exact ⟨⟩) ?_
 rintro k ⟨hk, ha⟩
 refine bu ?_
 refine mc ?_
 refine ll ?_
 refine cx 14 (fun ga sga => ?_) (fun ga sga => ?_)
 refine rB ga ?_ (x := vM false [sl .v _])
 refine rB ga ?_ (x := cL [(false, [sl _ _])] [(false, [sl .v _])] uX (hs := by exact u9))
 refine rj ?_
 refine cx 18 (fun gb sgb => ?_) (fun gb sgb => ?_)
 refine G3 ?_
 refine ko ?_
 refine cx 22 (fun gc sgc => ?_) (fun gc sgc => ?_)
 refine rB gc ?_ (x := sM)
 refine xw ?_
 refine sc (fun hba => ?_) (fun hba => ?_)
 have hok : (b7 l && (aB f 0 2 && aB v 0 99)) = true := by simp_all
 have hok2 := jl (Bool.and_eq_true_iff.1 hok).1
 have hlt : k < l.length := (by first | omega | (simp_all; done) | (simp_all; omega))
 have hsl := rH (l.take k) f v
 rw [List.length_take] at hsl
 refine aT ?_
 refine sS [0, 1, 2, 6, 7, 8] [] ?_
 refine i4 ?_
 refine oH ?_
 refine ku ?_
 refine rA ?_ (x := cL [(true, [val _, val _, sl _ _, sl _ _]), (false, [val _]), (false, [val _])] [(true, [val _, val _, sl .v _, sl .v _]), (false, [val _]), (false, [val _])] PR (hs := by exact QA))
 refine sc (fun hbb => ?_) (fun hbb => ?_)
 have hc := hbb
 refine sG [0, 1, 2, 6, 7, 8] [] ?_
 refine rA ?_ (x := tM)
 refine HR ?_
 refine tL ?_
 refine i7 ?_
 exact CK
 have hc := hbb
 refine aN ?_
 exact CK
 exact tb
 refine lh ?_
 refine dk ?_
 exact tb
 refine lm ?_
 refine an.cases (s := 22) rfl (fun g7 => nomatch g7) (fun g7 => ?_)
 refine re ?_
 refine dk ?_
 exact tb
 refine ii ?_
 refine an.cases (s := 18) rfl (fun g9 => nomatch g9) (fun g9 => ?_)
 refine rc ?_
 refine rM ?_
 refine an.cases (s := 22) rfl (fun g10 => nomatch g10) (fun g10 => ?_)
 refine oP ?_
 refine dk ?_
 exact tb
theorem Kp {p1 p2 : Fl} {l : List Query} {f : Int}  : aw Tryz.prog 246 [(false, [sl .v (l.map (cN p1 p2))]), (false, [val (vI f)])] (av [(false, [sl (.own 268 3) ((df l f).map (f5 (.own 3 1)))])]) := by
 refine kX (largs := fun L => [(false, [sl (.lo L) (l.map (cN (.lo L) (.lo L)))]), (false, [val (vI f)])]) (rs := [(false, [sl (.own 268 3) ((df l f).map (f5 (.own 3 1)))])]) Tryz.func246 rfl (nl rfl) (fun L => by exact (aI (aI rfl (ah.cons (PV.tob_map (fun _ => nl rfl) (fun _ => (ah.cons PV.tob_refl (ah.cons PV.tob_refl (ah.cons (PV.tob_map (fun _ => nl rfl) (fun _ => (ah.cons PV.tob_refl (ah.cons PV.tob_refl (ah.cons PV.tob_refl ah.nil))))) (ah.cons (PV.tob_map (fun _ => nl rfl) (fun _ => (ah.cons PV.tob_refl ah.nil))) ah.nil)))))) ah.nil)) (aI (aI rfl (ah.cons PV.tob_refl ah.nil)) tI))) (fun L => by exact lq) ?_
 intro w0 Fz0
 refine sj 0 fun hl0 => ?_
 refine sR ?_
 refine Ik ?_
 refine i6 ?_
 refine sS [0, 1, 4, 5] [] ?_
 refine rA ?_ (x := vM false [sl (.lo _) _])
 refine rA ?_ (x := cL [(false, [sl (.lo _) _])] [(false, [sl .v _])] uX (hs := by exact u9))
 refine dI ?_
 refine cx 13 (fun ga sga => ?_) (fun ga sga => ?_)
 exact CL
 refine rB ga ?_ (x := sM)
 refine qA ?_
 refine rA ?_ (x := ay ga)
 refine sc (fun hba => ?_) (fun hba => ?_)
 exact wR
 have hok : (b7 l && aB f 0 2) = true := by simp_all
 obtain ⟨hq, hf⟩ := Bool.and_eq_true_iff.1 hok
 have hq2 := jl hq
 refine dE ?_
 refine um ?_
 refine FW ?_
 rintro k hk
 refine bu ?_
 refine rA ?_ (x := eR)
 refine sc (fun hbb => ?_) (fun hbb => ?_)
 have hlt : k < 100 := by omega
 have hse : uK l f (k : Int) = dL l f (k : Int) := if_pos (by rw [hq, hf]; simp [aB]; omega)
 have hsl := uL l f k
 have hss := rH l f (k : Int)
 refine ub ?_
 refine rA ?_ (x := vM false [sl (.lo _) _])
 refine ku ?_
 refine rA ?_ (x := cL [(false, [sl (.lo _) _]), (false, [val _]), (false, [val _])] [(false, [sl .v _]), (false, [val _]), (false, [val _])] PQ (hs := by exact (QB (l := l) (f := f) (v := (k : Int)))))
 refine rA ?_ (x := tA)
 refine sS [0, 1, 4, 5, 6, 7] [] ?_
 refine kl ?_
 refine rS ?_
 refine sS [0, 1, 4, 5, 6, 7, 8] [] ?_
 refine rM ?_
 refine rm ?_
 refine cx 31 (fun gb sgb => ?_) (fun gb sgb => ?_)
 refine rB gb ?_ (x := vM false [sl .v _])
 refine yx ?_
 refine Gc ?_
 refine rB gb ?_ (x := lE [sl .v _] aZ)
 refine rB gb ?_ (x := vM false [sl .v _])
 refine rB gb ?_ (x := cL [(false, [sl _ _]), (false, [sl _ _])] [(false, [sl .v _]), (false, [sl .v _])] nD (hs := by exact nV))
 refine rA ?_ (x := aA gb)
 refine sc (fun hbc => ?_) (fun hbc => ?_)
 have hls : gU (bH l f k) (dL l f (k : Int)) = true := IS (by omega) (by rw [← hse]; simpa using hbc)
 have hl1 : (bH l f k).length - 1 < (bH l f k).length := by omega
 refine sP [0, 1, 4, 5, 6, 7, 8] [] ?_
 refine wk (s := 5) (D := 900) (G := 2900) (E := 268) (e := 3) (L := (Lw w0.heap.size)) (es := ((bH l f k)).map (f5 (.own 3 1))) (by exact rfl) (hZ hl1) (by exact rfl) (by exact rfl) rfl (by exact rfl) (fun x hx => hx) (by exact lq) (by exact ⟨⟩) (ak.map fun x => (ak.cons lcl_val (ak.cons lcl_val (ak.cons (lcl_own (ak.map fun x => (ak.cons lcl_val ak.nil))) ak.nil)))) fun uu900 cp900 jk900 hlD900 hcp900 hjk900 => ?_
 rw [List.length_map] at hlD900 hcp900 hjk900
 refine cD (d := 900) (by exact rfl) (hY (k := ((bH l f k).length - 1)) hl1) ?_
 have hA900 := ia (f := (f5 (.own 3 1))) (e := 3) (xs := (bH l f k)) (k := ((bH l f k).length - 1)) (fun _ => rfl) (Nat.le_of_lt hl1)
 refine HG ?_
 refine rA ?_ (x := vM false [val _])
 refine rM ?_
 refine rA ?_ (x := er)
 refine rM ?_
 refine HB ?_
 refine E8 ?_
 refine sG [0, 1, 4, 5, 6, 7, 8] [] ?_
 exact CM
 exact CN
 refine nd ?_
 refine dk ?_
 exact CN
 exact CO
theorem QC {p1 : Fl} {l : List cd} {v : Int}  (hs : ∀ s ∈ l, s.Set.length ≤ 1048576) : aw Tryz.prog 249 [(false, [sl .v (l.map (f5 p1))]), (false, [val (vI v)])] (av [(false, [sl (.own 3 1) ((eL l v).map ai)])]) := by
 refine sF Tryz.func249 fun h0 w0 Fz0 => ?_
 refine sj 0 fun hl0 => ?_
 refine jD ?_
 refine aJ ?_
 refine sS [0, 1, 4] [] ?_
 refine bw ?_
 refine sP [0, 1, 4, 5] [] ?_
 refine sL [0, 1] [] (fun k : Nat => k ≤ l.length ∧ (l.take k).any (eg v) = false) (fun k : Nat => [(5, RV.int (k : Int))]) (fun k : Nat => []) (fun k : Nat => l.length - k) 0 (by exact ⟨by omega, by simp⟩) (by exact aI (by exact rfl) (tI)) (by exact ⟨⟩) ?_
 rintro k ⟨hk, ha⟩
 refine bu ?_
 refine kl ?_
 refine rA ?_ (x := cb)
 refine sc (fun hba => ?_) (fun hba => ?_)
 have hlt : k < l.length := by omega
 refine nj ?_
 refine uc ?_
 refine dG ?_
 refine dA 6 ?_ (x := aD (by decide) fw (by exact ⟨⟩) (by exact rfl) (by exact aE (by omega) rfl) (by exact rfl))
 refine dA 14 ?_ (x := bl (by decide) pv (by exact nl rfl))
 refine yz ?_
 refine dA 192 ?_ (x := aD (by decide) fw (by exact ⟨⟩) (by exact rfl) (by exact aE (by omega) rfl) (by exact rfl))
 refine dA 448 ?_ (x := bl (by decide) nQ (by exact nl rfl))
 refine dA 960 ?_ (x := lE [val _] aq)
 refine dA 2047 ?_ (x := cL [(false, [val _]), (false, [val _]), (false, [val _])] [(false, [val _]), (false, [val _]), (false, [val _])] eT (hs := by exact eZ))
 refine sc (fun hbb => ?_) (fun hbb => ?_)
 have hy : eg v l[k] = true := by simpa [eg] using hbb
 have hst := hs l[k] (List.getElem_mem hlt)
 refine sS [0, 1, 5] [] ?_
 refine rA ?_ (x := bd (qs := []) (by decide) a3 ce (by decide) rfl rfl rfl rfl rfl (by exact nl rfl) (by exact ⟨⟩) rfl)
 refine i4 ?_
 refine rA ?_ (x := aD (by decide) fw (by exact ⟨⟩) (by exact rfl) (by exact aE (by omega) rfl) (by exact rfl))
 refine rA ?_ (x := bl (by decide) nR (by exact nl rfl))
 refine tj ?_
 refine rA ?_ (x := tA)
 refine bY ?_
 exact (aI (by refine bg ?_; rw [IX hlt ha hy]; exact rfl) tI)
 have hno : eg v l[k] = false := by simpa [eg] using hbb
 refine aN ?_
 refine sG [0, 1, 5] [] ?_
 exact CP
 have hend : k = l.length := by omega
 rw [hend, List.take_length] at ha
 refine ul ?_
 refine oC ?_
 exact CQ
theorem QD {p1 p3 : Fl} {x : List cd} {y : List cd}  : aw Tryz.prog 247 [(false, [sl .v (x.map (f5 p1))]), (false, [sl .v (y.map (f5 p3))])] (av [(false, [val (.bool (dl x y))])]) := by
 refine sF Tryz.func247 fun h0 w0 Fz0 => ?_
 refine sj 0 fun hl0 => ?_
 refine sj 1 fun hl1 => ?_
 refine kp ?_
 refine kl ?_
 refine kl ?_
 refine rA ?_ (x := co)
 refine sc (fun hba => ?_) (fun hba => ?_)
 exact ox
 have hl : x.length = y.length := by omega
 refine ni ?_
 refine bw ?_
 refine qw ?_
 rintro k ⟨hk, ha⟩
 refine bu ?_
 refine kl ?_
 refine rA ?_ (x := cb)
 refine sc (fun hbb => ?_) (fun hbb => ?_)
 have hlt : k < x.length := by omega
 have hlt2 : k < y.length := by omega
 refine nj ?_
 refine md ?_
 refine dA 3 ?_ (x := aD (by decide) fw (by exact ⟨⟩) (by exact rfl) (by exact aE (by omega) rfl) (by exact rfl))
 refine dA 7 ?_ (x := bl (by decide) pv (by exact nl rfl))
 refine dA 15 ?_ (x := lE [val _] aq)
 refine dG ?_
 refine dA 96 ?_ (x := aD (by decide) fw (by exact ⟨⟩) (by exact rfl) (by exact aE (by omega) rfl) (by exact rfl))
 refine dA 224 ?_ (x := bl (by decide) pv (by exact nl rfl))
 refine dA 480 ?_ (x := lE [val _] aq)
 refine dA 1023 ?_ (x := co)
 refine dA 2047 ?_ (x := sM)
 refine dx 28 (fun ga sga => ?_) (fun ga sga => ?_)
 refine uq ?_
 refine dT 16383 ga ?_
 refine dT 32767 ga ?_
 refine dT 65535 ga ?_
 refine uq ?_
 refine dT 397311 ga ?_
 refine dT 921599 ga ?_
 refine dT 1970175 ga ?_
 refine qU ?_
 refine dA 16777215 ?_ (x := sM)
 refine a4.cases (s := 41) rfl (fun g4 => ?_) (fun g4 => nomatch g4)
 refine t8 ?_
 refine dT 134217727 g4 ?_
 refine dT 268435455 g4 ?_
 refine dT 536870911 g4 ?_
 refine t8 ?_
 refine dT 3254779903 g4 ?_
 refine dT 7549747199 g4 ?_
 refine dT 16139681791 g4 ?_
 refine dT 34359738367 g4 ?_
 refine dT 68719476735 g4 ?_
 refine dA 137438953471 ?_ (x := aA g4)
 exact qm
 refine tT ?_
 refine dB 16383 ga ?_ (x := aD (by decide) fw (by exact ⟨⟩) (by exact rfl) (by exact aE (by omega) rfl) (by exact rfl))
 refine dB 32767 ga ?_ (x := bl (by decide) nQ (by exact nl rfl))
 refine dB 65535 ga ?_ (x := lE [val _] aq)
 refine tT ?_
 refine dB 397311 ga ?_ (x := aD (by decide) fw (by exact ⟨⟩) (by exact rfl) (by exact aE (by omega) rfl) (by exact rfl))
 refine dB 921599 ga ?_ (x := bl (by decide) nQ (by exact nl rfl))
 refine dB 1970175 ga ?_ (x := lE [val _] aq)
 refine dB 4194303 ga ?_ (x := co)
 refine dA 8388607 ?_ (x := ay ga)
 refine dA 16777215 ?_ (x := sM)
 refine dx 41 (fun gb sgb => ?_) (fun gb sgb => ?_)
 refine t9 ?_
 refine dT 134217727 gb ?_
 refine dT 268435455 gb ?_
 refine dT 536870911 gb ?_
 refine t9 ?_
 refine dT 3254779903 gb ?_
 refine dT 7549747199 gb ?_
 refine dT 16139681791 gb ?_
 refine dT 34359738367 gb ?_
 refine dT 68719476735 gb ?_
 refine dA 137438953471 ?_ (x := aA gb)
 exact qm
 refine tS ?_
 refine dB 134217727 gb ?_ (x := aD (by decide) fw (by exact ⟨⟩) (by exact rfl) (by exact aE (by omega) rfl) (by exact rfl))
 refine dB 268435455 gb ?_ (x := bl (by decide) nR (by exact nl rfl))
 refine dB 536870911 gb ?_ (x := lE [sl .v _] aZ)
 refine tS ?_
 refine dB 3254779903 gb ?_ (x := aD (by decide) fw (by exact ⟨⟩) (by exact rfl) (by exact aE (by omega) rfl) (by exact rfl))
 refine dB 7549747199 gb ?_ (x := bl (by decide) nR (by exact nl rfl))
 refine dB 16139681791 gb ?_ (x := lE [sl .v _] aZ)
 refine dB 34359738367 gb ?_ (x := cL [(false, [sl _ _]), (false, [sl _ _])] [(false, [sl .v _]), (false, [sl .v _])] nD (hs := by exact nV))
 refine dB 68719476735 gb ?_ (x := nT)
 refine dA 137438953471 ?_ (x := ay gb)
 refine sc (fun hbc => ?_) (fun hbc => ?_)
 exact qk
 refine ns ?_
 exact CR
 exact ql
theorem va {x : Query}  (hb : d9 x ≤ 68719476736) : aw Tryz.prog 156 [(true, [val (vI x.Id), val (vI x.Tenant), sl .v (x.Conds.map bR), sl .v (x.Out.map ai)])] (av [(true, [val (vI x.Id), val (vI x.Tenant), sl (.own 178 3) (x.Conds.map bR), sl (.own 3 1) (x.Out.map ai)])]) := by
 refine sF Tryz.func156 fun h0 w0 Fz0 => ?_
 refine sn 0 2 fun hl0_2 => ?_
 refine sn 0 3 fun hl0_3 => ?_
 have hbu := hb
 simp only [d9, cu, aV, rr] at hbu
 refine l7 ?_
 refine rX ?_ (x := (bB (by decide) gx nI))
 refine me ?_
 refine dA 0 ?_ (x := lF gu)
 refine dA 1 ?_ (x := lD [val _] aq)
 refine dA 0 ?_ (x := lF uD)
 refine dA 4 ?_ (x := lD [val _] aq)
 refine dA 0 ?_ (x := bd (qs := []) (by decide) gv ly (by decide) rfl rfl rfl rfl rfl (by exact nl rfl) (by exact ⟨⟩) rfl)
 refine dA 0 ?_ (x := lF iO)
 refine dA 32 ?_ (x := lD [sl .v _] iP)
 refine dA 112 ?_ (x := gp (by decide) gv ly rfl rfl (by decide) (by first | (intro cs hcs; obtain ⟨x, _, rfl⟩ := List.mem_map.1 hcs; exact rfl) | simp) (by first | (intro cs hcs; obtain ⟨x, _, rfl⟩ := List.mem_map.1 hcs; exact (ae.cons (bor_val _) (ae.cons (bor_val _) (ae.cons (bor_val _) ae.nil)))) | simp) (by simp only [List.length_map, List.length_append, List.length_cons, List.length_nil]; omega) (by simp only [List.length_map, List.length_append, List.length_cons, List.length_nil]; omega))
 refine dA 0 ?_ (x := bd (qs := []) (by decide) a3 ce (by decide) rfl rfl rfl rfl rfl (by exact nl rfl) (by exact ⟨⟩) rfl)
 refine dA 0 ?_ (x := lF kD)
 refine Fo ?_
 refine dA 4095 ?_ (x := cv (qs := [(false, [val _]), (false, [val _]), (false, [sl _ _]), (false, [sl _ _])]) (cs := [val _, val _, sl _ _, sl _ _]) (by decide) gx nI Qz (by exact rfl) (by exact (aI (by exact ⟨⟩) (aI (by exact ⟨⟩) (aI (by exact ⟨⟩) (aI (by exact ⟨⟩) tI))))) rfl (by exact rfl))
 refine dA 8191 ?_ (x := aQ (ag := true) (vs := [val _, val _, sl _ _, sl _ _]) dp (by exact ⟨⟩) (by exact rfl) (by exact nl rfl))
 exact CS
theorem QE {p1 p2 : Fl} {x : List Query}  (hb : pf x ≤ 68719476736) : aw Tryz.prog 245 [(false, [sl .v (x.map (cN p1 p2))])] (av [(false, [sl (.own 52 4) (x.map (cN (.own 178 3) (.own 3 1)))])]) := by
 refine sF Tryz.func245 fun h0 w0 Fz0 => ?_
 refine sj 0 fun hl0 => ?_
 have hbu := hb
 simp only [pf] at hbu
 refine sR ?_
 refine Ie ?_
 refine qC ?_
 refine o7 ?_
 refine sL [0, 2] [] (fun k : Nat => k ≤ x.length) (fun k : Nat => [(3, RV.slc (.own 52 4) ((x.take k).map (cN (.own 178 3) (.own 3 1)))), (4, RV.int (k : Int))]) (fun k : Nat => []) (fun k : Nat => x.length - k) 0 (by omega) (by exact aI (by first | exact rfl | simp) (aI (by exact rfl) (tI))) (by exact ⟨⟩) ?_
 rintro k hk
 refine bu ?_
 refine mc ?_
 refine rA ?_ (x := cb)
 refine sc (fun hba => ?_) (fun hba => ?_)
 have hlt : k < x.length := by omega
 have hwm := cR (f := d9) hlt
 have htl : (x.take k).length = k := by rw [List.length_take]; omega
 refine aT ?_
 refine sS [0, 2, 3, 4] [] ?_
 refine i4 ?_
 refine oH ?_
 refine rA ?_ (x := cL [(true, [val _, val _, sl _ _, sl _ _])] [(true, [val _, val _, sl .v _, sl .v _])] uW (hs := by exact va (by omega)))
 refine qB ?_
 refine sH [0, 2, 3, 4, 5] [5] ?_
 refine rA ?_ (x := tM)
 refine rA ?_ (x := b8 (ms := [val _, val _, sl _ _, sl _ _]) (qs := [val _, val _, sl .v _, sl .v _]) (by decide) dp (fun h => nomatch h) (by exact nl rfl) (by exact rfl) (by exact (ab.cons (PV.To.refl _) (ab.cons (PV.To.refl _) (ab.cons PV.to_none (ab.cons PV.to_none ab.nil))))) (by exact lq))
 refine Fw ?_
 refine rA ?_ (x := tA)
 refine sH [0, 2, 3, 4, 5] [5] ?_
 exact wH
 exact wI
end Go.Proofs.YtmekkgdboplbjaaGreat
