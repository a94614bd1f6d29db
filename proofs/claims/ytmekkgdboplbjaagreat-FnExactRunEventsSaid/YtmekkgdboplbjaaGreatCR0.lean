/- What functions of the program compute. No condition. -/
import Derived.Test.YtmekkgdboplbjaaGreatCM0
import Derived.Test.YtmekkgdboplbjaaGreatCP0
import Derived.Test.YtmekkgdboplbjaaGreatCQ0
set_option linter.all false
namespace Go.Proofs.YtmekkgdboplbjaaGreat
open Go Go.RowKit M PV Tryz
set_option maxRecDepth 10000
attribute [local irreducible] PV.Lcl PV.LclR RV.Lcl
def ZD : gE prog 268 = some [(0, 1), (1, 1), (2, 1)] := by kernel_rfl
def ZE : gE prog 52 = some [(0, 1), (1, 1), (2, 1), (3, 1)] := by kernel_rfl
def Dl {p1 p2 : Fl} {l : List acv}  : aB prog 244 [(false, [sl .v (l.map (jZ p1 p2))])] (aA [(false, [val (.bool (dz l))])]) := by
 refine sF func244 fun h0 w0 Fz0 => ?_
 refine sj 0 fun hl0 => ?_
 refine qR ?_
 refine sz ?_
 refine sL [0] [] (fun k : Nat => k ≤ l.length ∧ kJ td cJ rn l k = true) (fun k : Nat => [(3, RV.int (k : Int))]) (fun k : Nat => []) (fun k : Nat => l.length - k) 0 (by exact ⟨by omega, rfl⟩) (by exact aI (by exact rfl) tI) (by exact tI) ?_
 rintro k ⟨hk, ha⟩
 refine cP ?_
 refine xo ?_
 refine sc (fun hba => ?_) (fun hba => ?_)
 have hlt : k < l.length := by omega
 have hgk : l.getD k td = l[k] := gU hlt
 have hgp : 0 < k → l.getD (k - 1) td = l[k - 1] := fun h => gU (by omega)
 refine cO ?_
 refine sP [0, 3] [] ?_
 refine pA ?_
 refine dA 3 ?_ (x := aY (by decide) mx (by exact tI) (by exact rfl) (by exact bc (by omega) rfl) (by exact rfl))
 refine dA 7 ?_ (x := lE [val _, val _, sl .v _, sl .v _] fy)
 refine dA 15 ?_ (x := cL [(true, [val _, val _, sl _ _, sl _ _])] [(true, [val _, val _, sl .v _, sl .v _])] xZ (hs := by exact yt))
 refine dA 31 ?_ (x := nT)
 refine dA 63 ?_ (x := sM)
 refine dx 16 (fun ga sga => ?_) (fun ga sga => ?_)
 refine dT 127 ga ?_
 refine dT 255 ga ?_
 refine dT 511 ga ?_
 refine dU 1023 ?_
 refine dU 1023 ?_
 refine dU 4095 ?_
 refine dU 8191 ?_
 refine dU 16383 ?_
 refine dU 1023 ?_
 refine dU 1023 ?_
 refine dU 66559 ?_
 refine dU 230399 ?_
 refine dU 492543 ?_
 refine dU 1016831 ?_
 refine dU 2097151 ?_
 refine dT 4194303 ga ?_
 refine dA 8388607 ?_ (x := aT ga)
 refine dr ?_
 exact GV
 refine dB 127 ga ?_ (x := sM)
 refine dB 255 ga ?_ (x := eN)
 refine dB 511 ga ?_ (x := sM)
 refine dx 19 (fun gb sgb => ?_) (fun gb sgb => ?_)
 refine xg ?_
 refine dB 4095 gb ?_ (x := aY (by decide) mx (by exact tI) (by exact rfl) (by exact bc (by omega) rfl) (by exact rfl))
 refine dB 8191 gb ?_ (x := bI (by decide) fx (by exact nl rfl))
 refine dB 16383 gb ?_ (x := lE [val _] au)
 refine xg ?_
 refine dB 66559 gb ?_ (x := ip)
 refine dB 230399 gb ?_ (x := aY (k := k - 1) (by decide) mx (by exact tI) (by omega) (by exact bc (by omega) rfl) (by exact rfl))
 refine dB 492543 gb ?_ (x := bI (by decide) fx (by exact nl rfl))
 refine dB 1016831 gb ?_ (x := lE [val _] au)
 refine dB 2097151 gb ?_ (x := iR)
 refine dB 4194303 ga ?_ (x := aT gb)
 refine dA 8388607 ?_ (x := aK ga)
 refine sc (fun hbb => ?_) (fun hbb => ?_)
 exact GV
 exact GW
 refine xM ?_
 refine dF 4095 gb ?_
 refine dF 8191 gb ?_
 refine dF 16383 gb ?_
 refine xM ?_
 refine dF 66559 gb ?_
 refine dF 230399 gb ?_
 refine dF 492543 gb ?_
 refine dF 1016831 gb ?_
 refine dF 2097151 gb ?_
 refine dB 4194303 ga ?_ (x := aK gb)
 refine dA 8388607 ?_ (x := aK ga)
 refine fT ?_
 exact GW
 have hend : k = l.length := by omega
 have hall : fa td cJ rn l = true := rh ha hend
 refine sC ?_
 refine rA ?_ (x := vM false [sl .v _])
 refine rA ?_ (x := lN mx)
 refine rA ?_ (x := iR)
 refine ew ?_
 exact rb (by simp [dz, hall])
def ZF {q : acv} {f : Int} {v : Int}  : aB prog 283 [(true, [val (vI q.Id), val (vI q.acz), sl .v (q.acw.map bj), sl .v (q.Out.map ak)]), (false, [val (vI f)]), (false, [val (vI v)])] (aA [(false, [val (.bool (iI q f v))])]) := by
 refine sF func283 fun h0 w0 Fz0 => ?_
 refine sn 0 2 fun hl0_2 => ?_
 refine sn 0 3 fun hl0_3 => ?_
 refine oe ?_
 refine fh ?_
 refine sT [1, 2, 3, 6] [3] ?_
 refine cH ?_
 refine sP [1, 2, 3, 6, 7] [3] ?_
 refine sL [1, 2, 3] [3] (fun k : Nat => k ≤ q.acw.length ∧ (q.acw.take k).all (iv f v) = true) (fun k : Nat => [(7, RV.int (k : Int))]) (fun k : Nat => []) (fun k : Nat => q.acw.length - k) 0 (by exact ⟨by omega, by simp⟩) (by exact aI (by exact rfl) tI) (by exact tI) ?_
 rintro k ⟨hk, ha⟩
 refine eH ?_
 refine qJ ?_
 refine xp ?_
 refine sc (fun hba => ?_) (fun hba => ?_)
 have hlt : k < q.acw.length := by omega
 refine cO ?_
 refine sQ [1, 2, 3, 7] [3] ?_
 refine dw dl ?_
 refine dA 0 ?_ (x := lF jH)
 refine dA 1 ?_ (x := lD [sl .v _] jI)
 refine Lt ?_
 refine dA 15 ?_ (x := bI (by decide) mh (by exact nl rfl))
 refine dA 31 ?_ (x := lE [val _] au)
 refine dA 0 ?_ (x := sM)
 refine dA 127 ?_ (x := eG)
 refine dA 255 ?_ (x := sM)
 refine dx 23 (fun ga sga => ?_) (fun ga sga => ?_)
 refine dB 511 ga ?_ (x := sM)
 refine dB 511 ga ?_ (x := lF jH)
 refine dB 1535 ga ?_ (x := lD [sl .v _] jI)
 refine dB 511 ga ?_ (x := sM)
 refine dB 7679 ga ?_ (x := aY (by decide) eC (by exact tI) (by exact rfl) (by exact bc (by omega) rfl) (by exact rfl))
 refine dB 15871 ga ?_ (x := bI (by decide) pQ (by exact nl rfl))
 refine dB 32255 ga ?_ (x := lE [val _] au)
 refine dB 511 ga ?_ (x := lF jH)
 refine dB 66047 ga ?_ (x := lD [sl .v _] jI)
 refine dB 511 ga ?_ (x := sM)
 refine dB 459263 ga ?_ (x := aY (by decide) eC (by exact tI) (by exact rfl) (by exact bc (by omega) rfl) (by exact rfl))
 refine dB 983551 ga ?_ (x := bI (by decide) mi (by exact nl rfl))
 refine dB 2032127 ga ?_ (x := lE [val _] au)
 refine dB 4194303 ga ?_ (x := cL [(false, [val _]), (false, [val _]), (false, [val _])] [(false, [val _]), (false, [val _]), (false, [val _])] gv (hs := by exact gz))
 refine dB 8388607 ga ?_ (x := nT)
 refine dA 16777215 ?_ (x := aT ga)
 refine sc (fun hbb => ?_) (fun hbb => ?_)
 have hno : iv f v q.acw[k] = false := by simp_all [iv]
 refine sS [1, 2, 3, 7] [3] ?_
 exact GX
 exact GY
 refine dF 511 ga ?_
 refine dF 511 ga ?_
 refine dF 1535 ga ?_
 refine dF 511 ga ?_
 refine dF 7679 ga ?_
 refine dF 15871 ga ?_
 refine dF 32255 ga ?_
 refine dF 511 ga ?_
 refine dF 66047 ga ?_
 refine dF 511 ga ?_
 refine dF 459263 ga ?_
 refine dF 983551 ga ?_
 refine dF 2032127 ga ?_
 refine dF 4194303 ga ?_
 refine dF 8388607 ga ?_
 refine dA 16777215 ?_ (x := aK ga)
 refine fT ?_
 exact GY
 have hall : q.acw.all (iv f v) = true := jY (by rw [show q.acw.length = k by omega]; exact ha)
 refine bG ?_
 refine sT [1, 2, 3, 7] [3] ?_
 exact GZ
def ZG {p1 p2 : Fl} {l : List acv} {f : Int} {v : Int}  : aB prog 279 [(false, [sl .v (l.map (jZ p1 p2))]), (false, [val (vI f)]), (false, [val (vI v)])] (aA [(false, [sl aa ((ye l f v).map ak)])]) := by
 refine sF func279 fun h0 w0 Fz0 => ?_
 refine sj 0 fun hl0 => ?_
 refine pu ?_
 refine sS [0, 1, 2, 6] [] ?_
 refine ow ?_
 refine sS [0, 1, 2, 6, 7] [] ?_
 refine cH ?_
 refine sP [0, 1, 2, 6, 7, 8] [] ?_
 refine sL [0, 1, 2, 6] [] (fun k : Nat => k ≤ l.length ∧ (0 < k → (dz l && (aW f 0 2 && aW v 0 99)) = true)) (fun k : Nat => [(7, RV.slc aa ((fY (l.take k) f v).map ak)), (8, RV.int (k : Int))]) (fun k : Nat => []) (fun k : Nat => l.length - k) 0 (by exact ⟨by omega, fun h => absurd h (Nat.lt_irrefl 0)⟩) (by exact aI (by exact rfl) (aI (by exact rfl) tI)) (by exact tI) ?_
 rintro k ⟨hk, ha⟩
 refine cP ?_
 refine xo ?_
 refine rM ?_
 refine cx 14 (fun ga sga => ?_) (fun ga sga => ?_)
 refine rB ga ?_ (x := vM false [sl .v _])
 refine rB ga ?_ (x := cL [(false, [sl _ _])] [(false, [sl .v _])] CY (hs := by exact Dl))
 refine gR ?_
 refine cx 18 (fun gb sgb => ?_) (fun gb sgb => ?_)
 refine rB gb ?_ (x := sM)
 refine AV ?_
 refine cx 22 (fun gc sgc => ?_) (fun gc sgc => ?_)
 refine KG ?_
 refine rA ?_ (x := aT gc)
 refine sc (fun hba => ?_) (fun hba => ?_)
 have hok : (dz l && (aW f 0 2 && aW v 0 99)) = true := by simp_all
 have hok2 := pU (Bool.and_eq_true_iff.1 hok).1
 have hlt : k < l.length := (by first | omega | (simp_all; done) | (simp_all; omega))
 have hsl := CP (l.take k) f v
 rw [br] at hsl
 refine bB ?_
 refine sS [0, 1, 2, 6, 7, 8] [] ?_
 refine wQ ?_
 refine rA ?_ (x := lE [val _, val _, sl .v _, sl .v _] fy)
 refine la ?_
 refine rA ?_ (x := cL [(true, [val _, val _, sl _ _, sl _ _]), (false, [val _]), (false, [val _])] [(true, [val _, val _, sl .v _, sl .v _]), (false, [val _]), (false, [val _])] Xp (hs := by exact ZF))
 refine sc (fun hbb => ?_) (fun hbb => ?_)
 have hc := hbb
 refine sG [0, 1, 2, 6, 7, 8] [] ?_
 refine rA ?_ (x := tM)
 refine wQ ?_
 refine rA ?_ (x := bI (by decide) fx (by exact nl rfl))
 refine xu ?_
 exact Ha
 have hc := hbb
 refine bm ?_
 exact Ha
 exact wc
 refine pw ?_
 refine fT ?_
 exact wc
 refine gF ?_
 refine ar.cases (s := 22) rfl (fun g7 => nomatch g7) (fun g7 => ?_)
 refine uB ?_
 refine fT ?_
 exact wc
 refine hM ?_
 refine ar.cases (s := 18) rfl (fun g9 => nomatch g9) (fun g9 => ?_)
 refine qN ?_
 refine rM ?_
 refine ar.cases (s := 22) rfl (fun g10 => nomatch g10) (fun g10 => ?_)
 refine qL ?_
 refine fT ?_
 exact wc
def ZH {p1 p2 : Fl} {l : List acv} {f : Int}  : aB prog 246 [(false, [sl .v (l.map (jZ p1 p2))]), (false, [val (vI f)])] (aA [(false, [sl rG ((gH l f).map (pO aa))])]) := by
 refine kU (largs := fun L => [(false, [sl (.lo L) (l.map (jZ (.lo L) (.lo L)))]), (false, [val (vI f)])]) (rs := [(false, [sl rG ((gH l f).map (pO aa))])]) func246 rfl (nl rfl) (fun L => by exact (aI (aI rfl (ab.cons (aM (fun _ => nl rfl) (fun _ => (ab.cons ao (ab.cons ao (ab.cons (aM (fun _ => nl rfl) (fun _ => (ab.cons ao (ab.cons ao (ab.cons ao ab.nil))))) (ab.cons (aM (fun _ => nl rfl) (fun _ => (ab.cons ao ab.nil))) ab.nil)))))) ab.nil)) (aI (aI rfl (ab.cons ao ab.nil)) tI))) (fun L => by exact lq) ?_
 intro w0 Fz0
 refine sj 0 fun hl0 => ?_
 refine sR ?_
 refine rA ?_ (x := iz (.inr rfl) (by decide) (jl (t := 268) (e := 3)))
 refine sS [0, 1, 4] [] ?_
 refine rA ?_ (x := cj (qs := []) (by decide) nu yp (by decide) rfl rfl rfl rfl rfl (by exact nl rfl) (by exact tI) rfl)
 refine sq ?_
 refine sS [0, 1, 4, 5] [] ?_
 refine rA ?_ (x := vM false [sl (.lo _) _])
 refine rA ?_ (x := cL [(false, [sl (.lo _) _])] [(false, [sl .v _])] CY (hs := by exact Dl))
 refine gp ?_
 refine cx 13 (fun ga sga => ?_) (fun ga sga => ?_)
 refine oH ?_
 exact Hb
 refine rB ga ?_ (x := sM)
 refine AW ?_
 refine sc (fun hba => ?_) (fun hba => ?_)
 exact Hb
 have hok : (dz l && aW f 0 2) = true := by simp_all
 obtain ⟨hq, hf⟩ := Bool.and_eq_true_iff.1 hok
 have hq2 := pU hq
 refine dt ?_
 refine sS [0, 1, 4, 5] [] ?_
 refine cH ?_
 refine sP [0, 1, 4, 5, 6] [] ?_
 refine sL [0, 1, 4] [] (fun k : Nat => k ≤ 100) (fun k : Nat => [(5, RV.slc rG ((dj l f k).map (pO aa))), (6, RV.int (k : Int))]) (fun k : Nat => []) (fun k : Nat => 100 - k) 0 (by omega) (by exact aI (by exact rfl) (aI (by exact rfl) tI)) (by exact tI) ?_
 rintro k hk
 refine eH ?_
 refine rA ?_ (x := iR)
 refine sc (fun hbb => ?_) (fun hbb => ?_)
 have hlt : k < 100 := by omega
 have hse : ye l f (k : Int) = fY l f (k : Int) := if_pos (by rw [hq, hf]; simp [aW]; omega)
 have hsl := CQ l f k
 have hss := CP l f (k : Int)
 refine bB ?_
 refine sS [0, 1, 4, 5, 6] [] ?_
 refine rA ?_ (x := vM false [sl (.lo _) _])
 refine la ?_
 refine rA ?_ (x := cL [(false, [sl (.lo _) _]), (false, [val _]), (false, [val _])] [(false, [sl .v _]), (false, [val _]), (false, [val _])] Xo (hs := by exact (ZG (l := l) (f := f) (v := (k : Int)))))
 refine rA ?_ (x := tA)
 refine sS [0, 1, 4, 5, 6, 7] [] ?_
 refine rA ?_ (x := vM false [sl .v _])
 refine rA ?_ (x := lN nu)
 refine rS ?_
 refine sS [0, 1, 4, 5, 6, 7, 8] [] ?_
 refine rM ?_
 refine rA ?_ (x := eN)
 refine rM ?_
 refine cx 31 (fun gb sgb => ?_) (fun gb sgb => ?_)
 refine rB gb ?_ (x := vM false [sl .v _])
 refine rB gb ?_ (x := sM)
 refine rB gb ?_ (x := ip)
 refine rB gb ?_ (x := aY (k := (dj l f k).length - 1) (by decide) nu (by exact tI) (by omega) (by exact bc (by omega) (by rw [iH (d := kr) (by omega)])) (by exact rfl))
 refine rB gb ?_ (x := bI (by decide) OP (by exact nl rfl))
 refine rB gb ?_ (x := lE [sl .v _] bv)
 refine rB gb ?_ (x := vM false [sl .v _])
 refine rB gb ?_ (x := cL [(false, [sl _ _]), (false, [sl _ _])] [(false, [sl .v _]), (false, [sl .v _])] UP (hs := by exact ZB))
 refine rA ?_ (x := aT gb)
 refine sc (fun hbc => ?_) (fun hbc => ?_)
 have hls : mq (dj l f k) (fY l f (k : Int)) = true := VL (by omega) (by rw [← hse]; simpa using hbc)
 have hl1 : (dj l f k).length - 1 < (dj l f k).length := by omega
 refine sP [0, 1, 4, 5, 6, 7, 8] [] ?_
 refine EZ (s := 5) (D := 900) (G := 2900) (E := 268) (e := 3) (L := (Lw w0.heap.size)) (es := ((dj l f k)).map (pO aa)) (by exact rfl) (iC hl1) (by exact rfl) (by exact rfl) rfl (by exact rfl) (fun x hx => hx) (by exact lq) (by exact tI) (ai.map fun x => (ai.cons lcl_val (ai.cons lcl_val (ai.cons (lcl_own (ai.map fun x => (ai.cons lcl_val ai.nil))) ai.nil)))) fun uu900 cp900 jk900 hlD900 hcp900 hjk900 => ?_
 rw [aq] at hlD900 hcp900 hjk900
 refine bV (d := 900) (by exact rfl) (iB (k := ((dj l f k).length - 1)) hl1) ?_
 have hA900 := iQ (f := (pO aa)) (e := 3) (xs := (dj l f k)) (k := ((dj l f k).length - 1)) (fun _ => rfl) (Nat.le_of_lt hl1)
 refine sO [(0, _), (1, _), (4, _), (5, _), (6, _), (7, _), (8, _), (2900, _)] [(900, (268, _ ++ ([val _, val _, sl _ _] ++ _)))] ?_
 refine bf ?_
 refine rA ?_ (x := vM false [val _])
 refine rM ?_
 refine rA ?_ (x := ip)
 refine rM ?_
 refine rA ?_ (x := io (k := ((dj l f k).length - 1)) (G := 2900) (by decide) nu (by exact tI) (by omega) (by first | (rw [aq]; exact hl1) | exact hl1))
 refine rA ?_ (x := lF OO)
 refine rA ?_ (x := fD (o := 1) (ag := false) (vs := [val _]) (by omega) au (by exact tI) (by exact rfl) (by exact nl rfl))
 refine bV (d := 900) (by exact rfl) (mI (⟨((dj l f k).getD ((dj l f k).length - 1) kr).From, (k : Int), ((dj l f k).getD ((dj l f k).length - 1) kr).Set⟩) hl1 (by rw [iH (d := kr) hl1]; exact rfl)) ?_
 refine Fc (s := 5) (D := 900) (G := 2900) (e := 3) (es := (((dj l f k)).set ((dj l f k).length - 1) (⟨((dj l f k).getD ((dj l f k).length - 1) kr).From, (k : Int), ((dj l f k).getD ((dj l f k).length - 1) kr).Set⟩)).map (pO aa)) (by exact rfl) (by exact rfl) (by exact rfl) rfl (by decide) (by rw [aq, List.length_set, aq]) (by intro c hc; obtain ⟨y, _, rfl⟩ := List.mem_map.1 hc; exact rfl) (by rw [aq]; exact hjk900) ?_
 refine sG [0, 1, 4, 5, 6, 7, 8] [] ?_
 exact Hc
 exact He
 refine uA ?_
 refine fT ?_
 exact He
 have hend : k = 100 := by omega
 refine bG ?_
 refine sS [0, 1, 4, 5, 6] [] ?_
 refine ov ?_
 exact (aI (by refine cG ?_; unfold gH; rw [if_pos hok, hend]) tI)
def ZI {p1 : Fl} {l : List eA} {v : Int}  (hs : ∀ s ∈ l, s.Set.length ≤ 1048576) : aB prog 249 [(false, [sl .v (l.map (pO p1))]), (false, [val (vI v)])] (aA [(false, [sl aa ((gI l v).map ak)])]) := by
 refine sF func249 fun h0 w0 Fz0 => ?_
 refine sj 0 fun hl0 => ?_
 refine pu ?_
 refine aP ?_
 refine AD ?_
 refine sL [0, 1] [] (fun k : Nat => k ≤ l.length ∧ (l.take k).any (ib v) = false) (fun k : Nat => [(5, RV.int (k : Int))]) (fun k : Nat => []) (fun k : Nat => l.length - k) 0 (by exact ⟨by omega, by simp⟩) (by exact aI (by exact rfl) tI) (by exact tI) ?_
 rintro k ⟨hk, ha⟩
 refine cP ?_
 refine rA ?_ (x := lN nu)
 refine rA ?_ (x := cu)
 refine sc (fun hba => ?_) (fun hba => ?_)
 have hlt : k < l.length := by omega
 refine cO ?_
 refine sP [0, 1, 5] [] ?_
 refine dw dl ?_
 refine dA 0 ?_ (x := sM)
 refine eY ?_
 refine dA 6 ?_ (x := aY (by decide) nu (by exact tI) (by exact rfl) (by exact bc (by omega) rfl) (by exact rfl))
 refine dA 14 ?_ (x := bI (by decide) XP (by exact nl rfl))
 refine dA 30 ?_ (x := lE [val _] au)
 refine eY ?_
 refine dA 192 ?_ (x := aY (by decide) nu (by exact tI) (by exact rfl) (by exact bc (by omega) rfl) (by exact rfl))
 refine dA 448 ?_ (x := bI (by decide) OO (by exact nl rfl))
 refine dA 960 ?_ (x := lE [val _] au)
 refine dA 2047 ?_ (x := cL [(false, [val _]), (false, [val _]), (false, [val _])] [(false, [val _]), (false, [val _]), (false, [val _])] gv (hs := by exact gz))
 refine sc (fun hbb => ?_) (fun hbb => ?_)
 have hy : ib v l[k] = true := by simpa [ib] using hbb
 have hst := hs l[k] (List.getElem_mem hlt)
 refine sS [0, 1, 5] [] ?_
 refine rA ?_ (x := cj (qs := []) (by decide) bF eP (by decide) rfl rfl rfl rfl rfl (by exact nl rfl) (by exact tI) rfl)
 refine mM ?_
 refine rA ?_ (x := aY (by decide) nu (by exact tI) (by exact rfl) (by exact bc (by omega) rfl) (by exact rfl))
 refine rA ?_ (x := bI (by decide) OP (by exact nl rfl))
 refine Aq ?_
 refine rA ?_ (x := tA)
 refine eo ?_
 exact (aI (by refine cG ?_; rw [VP hlt ha hy]; exact rfl) tI)
 have hno : ib v l[k] = false := by simpa [ib] using hbb
 refine bm ?_
 refine sG [0, 1, 5] [] ?_
 exact Hg
 have hend : k = l.length := by omega
 rw [hend, cn] at ha
 refine wZ ?_
 refine Jl ?_
 refine eo ?_
 exact (aI (by refine cG ?_; rw [VQ ha]; exact rfl) tI)
def yu {x : acv}  (hb : cr x ≤ 68719476736) : aB prog 156 [(true, [val (vI x.Id), val (vI x.acz), sl .v (x.acw.map bj), sl .v (x.Out.map ak)])] (aA [(true, [val (vI x.Id), val (vI x.acz), sl aw (x.acw.map bj), sl aa (x.Out.map ak)])]) := by
 refine sF func156 fun h0 w0 Fz0 => ?_
 refine sn 0 2 fun hl0_2 => ?_
 refine sn 0 3 fun hl0_3 => ?_
 have hbu := hb
 simp only [cr, ek, bd, iX] at hbu
 refine BN ?_
 refine aP ?_
 refine mQ ?_
 refine dA 0 ?_ (x := lF fx)
 refine dA 1 ?_ (x := lD [val _] au)
 refine dA 0 ?_ (x := lF iY)
 refine dA 4 ?_ (x := lD [val _] au)
 refine dA 0 ?_ (x := cj (qs := []) (by decide) eC oO (by decide) rfl rfl rfl rfl rfl (by exact nl rfl) (by exact tI) rfl)
 refine dA 0 ?_ (x := lF jH)
 refine dA 32 ?_ (x := lD [sl .v _] jI)
 refine dA 112 ?_ (x := iN (by decide) eC oO rfl rfl (by decide) (by first | (intro cs hcs; obtain ⟨x, _, rfl⟩ := List.mem_map.1 hcs; exact rfl) | simp) (by first | (intro cs hcs; obtain ⟨x, _, rfl⟩ := List.mem_map.1 hcs; exact (an.cons (bor_val _) (an.cons (bor_val _) (an.cons (bor_val _) an.nil)))) | simp) (by simp only [aq, aV, List.length_cons, List.length_nil]; omega) (by simp only [aq, aV, List.length_cons, List.length_nil]; omega))
 refine dA 0 ?_ (x := cj (qs := []) (by decide) bF eP (by decide) rfl rfl rfl rfl rfl (by exact nl rfl) (by exact tI) rfl)
 refine dA 0 ?_ (x := lF ki)
 refine Jt ?_
 refine dA 4095 ?_ (x := fB (qs := [(false, [val _]), (false, [val _]), (false, [sl _ _]), (false, [sl _ _])]) (cs := [val _, val _, sl _ _, sl _ _]) (by decide) nj uZ ZE (by exact rfl) (by exact (aI (by exact tI) (aI (by exact tI) (aI (by exact tI) (aI (by exact tI) tI))))) rfl (by exact rfl))
 refine dA 8191 ?_ (x := bg (ag := true) (vs := [val _, val _, sl _ _, sl _ _]) fy (by exact tI) (by exact rfl) (by exact nl rfl))
 exact Ga
def ZJ {p1 p2 : Fl} {x : List acv}  (hb : xS x ≤ 68719476736) : aB prog 245 [(false, [sl .v (x.map (jZ p1 p2))])] (aA [(false, [sl qc (x.map (jZ aw aa))])]) := by
 refine sF func245 fun h0 w0 Fz0 => ?_
 refine sj 0 fun hl0 => ?_
 have hbu := hb
 simp only [xS] at hbu
 refine sR ?_
 refine rA ?_ (x := iz (.inr rfl) (by decide) (jl (t := 52) (e := 4)))
 refine sS [0, 2] [] ?_
 refine LD ?_
 refine xP ?_
 refine sL [0, 2] [] (fun k : Nat => k ≤ x.length) (fun k : Nat => [(3, RV.slc qc ((x.take k).map (jZ aw aa))), (4, RV.int (k : Int))]) (fun k : Nat => []) (fun k : Nat => x.length - k) 0 (by omega) (by exact aI (by first | exact rfl | simp) (aI (by exact rfl) tI)) (by exact tI) ?_
 rintro k hk
 refine cP ?_
 refine xo ?_
 refine sc (fun hba => ?_) (fun hba => ?_)
 have hlt : k < x.length := by omega
 have hwm := cT (f := cr) hlt
 have htl : (x.take k).length = k := by rw [br]; omega
 refine bB ?_
 refine sS [0, 2, 3, 4] [] ?_
 refine wQ ?_
 refine rA ?_ (x := lE [val _, val _, sl .v _, sl .v _] fy)
 refine rA ?_ (x := cL [(true, [val _, val _, sl _ _, sl _ _])] [(true, [val _, val _, sl .v _, sl .v _])] yl (hs := by exact yu (by omega)))
 refine rX ?_ (x := (bY (by decide) nj uZ))
 refine rA ?_ (x := bg (ag := true) (vs := [val _, val _, sl _ _, sl _ _]) fy (by exact tI) (by exact rfl) (by exact nl rfl))
 refine sH [0, 2, 3, 4, 5] [5] ?_
 refine rA ?_ (x := tM)
 refine rA ?_ (x := cz (ms := [val _, val _, sl _ _, sl _ _]) (qs := [val _, val _, sl .v _, sl .v _]) (by decide) fy (fun h => nomatch h) (by exact nl rfl) (by exact rfl) (by exact (ap (ap (aH (aH am.nil))))) (by exact lq))
 refine rA ?_ (x := cj (qs := [(true, [val _, val _, sl _ _, sl _ _])]) (by decide) mx nj (by decide) rfl rfl rfl rfl rfl (by exact nl rfl) (by exact (aI (by exact tI) tI)) rfl)
 refine rA ?_ (x := fe (by decide) mx nj rfl rfl (by decide) rfl (by simp only [aq, aV, List.length_cons, List.length_nil]; omega) (by simp only [aq, aV, List.length_cons, List.length_nil]; omega))
 refine rA ?_ (x := tA)
 refine sH [0, 2, 3, 4, 5] [5] ?_
 exact zO
 exact zQ
end Go.Proofs.YtmekkgdboplbjaaGreat
