/- What functions of the program compute. No condition. -/
import Derived.Test.YtmekkgdboplbjaaGreatDoorCJ0
import Derived.Test.YtmekkgdboplbjaaGreatDoorCM0
import Derived.Test.YtmekkgdboplbjaaGreatDoorCN0
set_option linter.all false
namespace Go.Proofs.YtmekkgdboplbjaaGreatDoor
open Go Go.RowKit M PV Tryz
set_option maxRecDepth 10000
attribute [local irreducible] PV.Lcl PV.LclR RV.Lcl
def Us : dL prog 25 = some [(0, 1), (1, 1), (2, 1), (3, 1)] := by kernel_rfl
def Ut : dL prog 307 = some [(0, 1), (1, 1), (2, 1)] := by kernel_rfl
def BI {p1 p2 : Fl} {l : List ZG}  : aN prog 324 [(false, [sl .v (l.map (kz p1 p2))])] (aF [(false, [val (.bool (dm l))])]) := by
 refine sF func324 fun h0 w0 Fz0 => ?_
 refine sj 0 fun hl0 => ?_
 refine rr ?_
 refine sL [0] [] (fun k : Nat => k ≤ l.length ∧ jM rI bG qm l k = true) (fun k : Nat => [(3, RV.int (k : Int))]) (fun k : Nat => []) (fun k : Nat => l.length - k) 0 (by exact ⟨by omega, rfl⟩) (by exact aI (by exact rfl) tI) (by exact tI) ?_
 rintro k ⟨hk, ha⟩
 refine iv ?_
 refine wk ?_
 refine sc (fun hba => ?_) (fun hba => ?_)
 have hlt : k < l.length := by omega
 have hgk : l.getD k rI = l[k] := et hlt
 have hgp : 0 < k → l.getD (k - 1) rI = l[k - 1] := fun h => et (by omega)
 refine er ?_
 refine sP [0, 3] [] ?_
 refine nC ?_
 refine dA 3 ?_ (x := aU (by decide) ma (by exact tI) (by exact rfl) (by exact aV (by omega) rfl) (by exact rfl))
 refine dA 7 ?_ (x := lE [val _, val _, sl .v _, sl .v _] fh)
 refine dA 15 ?_ (x := cL [(true, [val _, val _, sl _ _, sl _ _])] [(true, [val _, val _, sl .v _, sl .v _])] wM (hs := by exact xr))
 refine dA 31 ?_ (x := nT)
 refine dA 63 ?_ (x := sM)
 refine dx 16 (fun ga sga => ?_) (fun ga sga => ?_)
 refine dT 127 ga ?_
 refine dT 255 ga ?_
 refine dT 511 ga ?_
 refine ro ?_
 refine tL ?_
 refine dU 16383 ?_
 refine ro ?_
 refine dU 66559 ?_
 refine dU 230399 ?_
 refine dU 492543 ?_
 refine dU 1016831 ?_
 refine dU 2097151 ?_
 refine An ?_
 refine cO ?_
 exact EY
 refine Ak ?_
 refine dB 511 ga ?_ (x := sM)
 refine dx 19 (fun gb sgb => ?_) (fun gb sgb => ?_)
 refine qZ ?_
 refine dB 4095 gb ?_ (x := aU (by decide) ma (by exact tI) (by exact rfl) (by exact aV (by omega) rfl) (by exact rfl))
 refine dB 8191 gb ?_ (x := cB (by decide) iB (by exact nl rfl))
 refine dB 16383 gb ?_ (x := lE [val _] aw)
 refine qZ ?_
 refine dB 66559 gb ?_ (x := gw)
 refine dB 230399 gb ?_ (x := aU (k := k - 1) (by decide) ma (by exact tI) (by omega) (by exact aV (by omega) rfl) (by exact rfl))
 refine dB 492543 gb ?_ (x := cB (by decide) iB (by exact nl rfl))
 refine dB 1016831 gb ?_ (x := lE [val _] aw)
 refine zV ?_
 refine dA 8388607 ?_ (x := aH ga)
 refine sc (fun hbb => ?_) (fun hbb => ?_)
 exact EY
 exact EZ
 refine rf ?_
 refine dF 4095 gb ?_
 refine dF 8191 gb ?_
 refine dF 16383 gb ?_
 refine rf ?_
 refine dF 66559 gb ?_
 refine dF 230399 gb ?_
 refine dF 492543 gb ?_
 refine dF 1016831 gb ?_
 refine dF 2097151 gb ?_
 refine zZ ?_
 refine eJ ?_
 exact EZ
 have hend : k = l.length := by omega
 have hall : dE rI bG qm l = true := oS ha hend
 refine Ay ?_
 refine rA ?_ (x := lN ma)
 refine rA ?_ (x := ir)
 refine df ?_
 exact rb (by simp [dm, hall])
def Uu {q : ZG} {f : Int} {v : Int}  : aN prog 342 [(true, [val (vI q.Id), val (vI q.ZK), sl .v (q.ZH.map dj), sl .v (q.Out.map an)]), (false, [val (vI f)]), (false, [val (vI v)])] (aF [(false, [val (.bool (mF q f v))])]) := by
 refine sF func342 fun h0 w0 Fz0 => ?_
 refine sn 0 2 fun hl0_2 => ?_
 refine sn 0 3 fun hl0_3 => ?_
 refine qY ?_
 refine eD ?_
 refine sT [1, 2, 3, 6] [3] ?_
 refine de ?_
 refine sP [1, 2, 3, 6, 7] [3] ?_
 refine sL [1, 2, 3] [3] (fun k : Nat => k ≤ q.ZH.length ∧ (q.ZH.take k).all (mE f v) = true) (fun k : Nat => [(7, RV.int (k : Int))]) (fun k : Nat => []) (fun k : Nat => q.ZH.length - k) 0 (by exact ⟨by omega, by simp⟩) (by exact aI (by exact rfl) tI) (by exact tI) ?_
 rintro k ⟨hk, ha⟩
 refine cI ?_
 refine Ad ?_
 refine rA ?_ (x := lN gP)
 refine rA ?_ (x := dZ)
 refine sc (fun hba => ?_) (fun hba => ?_)
 have hlt : k < q.ZH.length := by omega
 refine er ?_
 refine sQ [1, 2, 3, 7] [3] ?_
 refine Av ?_
 refine dA 1 ?_ (x := lD [sl .v _] jc)
 refine Jd ?_
 refine dA 15 ?_ (x := cB (by decide) qh (by exact nl rfl))
 refine dA 31 ?_ (x := lE [val _] aw)
 refine dA 0 ?_ (x := sM)
 refine dA 127 ?_ (x := fb)
 refine dA 255 ?_ (x := sM)
 refine dx 23 (fun ga sga => ?_) (fun ga sga => ?_)
 refine dB 511 ga ?_ (x := sM)
 refine dB 511 ga ?_ (x := lF kE)
 refine dB 1535 ga ?_ (x := lD [sl .v _] jc)
 refine dB 511 ga ?_ (x := sM)
 refine dB 7679 ga ?_ (x := aU (by decide) gP (by exact tI) (by exact rfl) (by exact aV (by omega) rfl) (by exact rfl))
 refine dB 15871 ga ?_ (x := cB (by decide) wN (by exact nl rfl))
 refine dB 32255 ga ?_ (x := lE [val _] aw)
 refine dB 511 ga ?_ (x := lF kE)
 refine dB 66047 ga ?_ (x := lD [sl .v _] jc)
 refine dB 511 ga ?_ (x := sM)
 refine dB 459263 ga ?_ (x := aU (by decide) gP (by exact tI) (by exact rfl) (by exact aV (by omega) rfl) (by exact rfl))
 refine dB 983551 ga ?_ (x := cB (by decide) tW (by exact nl rfl))
 refine dB 2032127 ga ?_ (x := lE [val _] aw)
 refine dB 4194303 ga ?_ (x := cL [(false, [val _]), (false, [val _]), (false, [val _])] [(false, [val _]), (false, [val _]), (false, [val _])] fP (hs := by exact fV))
 refine dB 8388607 ga ?_ (x := nT)
 refine dA 16777215 ?_ (x := aK ga)
 refine sc (fun hbb => ?_) (fun hbb => ?_)
 have hno : mE f v q.ZH[k] = false := by simp_all [mE]
 refine sS [1, 2, 3, 7] [3] ?_
 refine cC ?_
 exact rb (by simp [mF, lP (P := (mE f v)) hlt hno])
 exact Fc
 refine dF 511 ga ?_
 refine dF 511 ga ?_
 refine dF 1535 ga ?_
 refine dF 511 ga ?_
 refine dF 7679 ga ?_
 refine dF 15871 ga ?_
 refine dF 32255 ga ?_
 refine dF 511 ga ?_
 refine dF 66047 ga ?_
 refine dF 511 ga ?_
 refine dF 459263 ga ?_
 refine dF 983551 ga ?_
 refine dF 2032127 ga ?_
 refine dF 4194303 ga ?_
 refine dF 8388607 ga ?_
 refine dA 16777215 ?_ (x := aH ga)
 refine eJ ?_
 exact Fc
 have hall : q.ZH.all (mE f v) = true := ky (by rw [show q.ZH.length = k by omega]; exact ha)
 refine bE ?_
 refine sT [1, 2, 3, 7] [3] ?_
 refine cC ?_
 exact rb (by simp [mF, hall, *])
def Uv {p1 p2 : Fl} {l : List ZG} {f : Int} {v : Int}  : aN prog 338 [(false, [sl .v (l.map (kz p1 p2))]), (false, [val (vI f)]), (false, [val (vI v)])] (aF [(false, [sl ae ((wV l f v).map an)])]) := by
 refine sF func338 fun h0 w0 Fz0 => ?_
 refine sj 0 fun hl0 => ?_
 refine pO ?_
 refine sS [0, 1, 2, 6] [] ?_
 refine nE ?_
 refine sS [0, 1, 2, 6, 7] [] ?_
 refine de ?_
 refine sP [0, 1, 2, 6, 7, 8] [] ?_
 refine sL [0, 1, 2, 6] [] (fun k : Nat => k ≤ l.length ∧ (0 < k → (dm l && (aB f 0 2 && aB v 0 99)) = true)) (fun k : Nat => [(7, RV.slc ae ((fy (l.take k) f v).map an)), (8, RV.int (k : Int))]) (fun k : Nat => []) (fun k : Nat => l.length - k) 0 (by exact ⟨by omega, fun h => absurd h (Nat.lt_irrefl 0)⟩) (by exact aI (by exact rfl) (aI (by exact rfl) tI)) (by exact tI) ?_
 rintro k ⟨hk, ha⟩
 refine iv ?_
 refine wk ?_
 refine rM ?_
 refine cx 14 (fun ga sga => ?_) (fun ga sga => ?_)
 refine rB ga ?_ (x := vM false [sl .v _])
 refine rB ga ?_ (x := cL [(false, [sl _ _])] [(false, [sl .v _])] Bu (hs := by exact BI))
 refine nA ?_
 refine cx 18 (fun gb sgb => ?_) (fun gb sgb => ?_)
 refine IF ?_
 refine oH ?_
 refine cx 22 (fun gc sgc => ?_) (fun gc sgc => ?_)
 refine rB gc ?_ (x := sM)
 refine zH ?_
 refine sc (fun hba => ?_) (fun hba => ?_)
 have hok : (dm l && (aB f 0 2 && aB v 0 99)) = true := by simp_all
 have hok2 := oW (Bool.and_eq_true_iff.1 hok).1
 have hlt : k < l.length := (by first | omega | (simp_all; done) | (simp_all; omega))
 have hsl := AW (l.take k) f v
 rw [bg] at hsl
 refine bw ?_
 refine sS [0, 1, 2, 6, 7, 8] [] ?_
 refine vV ?_
 refine rA ?_ (x := lE [val _, val _, sl .v _, sl .v _] fh)
 refine rM ?_
 refine rM ?_
 refine rA ?_ (x := cL [(true, [val _, val _, sl _ _, sl _ _]), (false, [val _]), (false, [val _])] [(true, [val _, val _, sl .v _, sl .v _]), (false, [val _]), (false, [val _])] Ts (hs := by exact Uu))
 refine sc (fun hbb => ?_) (fun hbb => ?_)
 have hc := hbb
 refine sG [0, 1, 2, 6, 7, 8] [] ?_
 refine rA ?_ (x := tM)
 refine vV ?_
 refine vX ?_
 refine nB ?_
 exact Fe
 have hc := hbb
 refine bc ?_
 exact Fe
 exact vl
 refine pW ?_
 refine eJ ?_
 exact vl
 refine qe ?_
 refine az.cases (s := 22) rfl (fun g7 => nomatch g7) (fun g7 => ?_)
 refine zf g7 ?_
 refine rA ?_ (x := aH g7)
 refine eJ ?_
 exact vl
 refine kx ?_
 refine az.cases (s := 18) rfl (fun g9 => nomatch g9) (fun g9 => ?_)
 refine zf g9 ?_
 refine rA ?_ (x := aH g9)
 refine rM ?_
 refine az.cases (s := 22) rfl (fun g10 => nomatch g10) (fun g10 => ?_)
 refine wv ?_
 refine eJ ?_
 exact vl
def Uw {p1 p2 : Fl} {l : List ZG} {f : Int}  : aN prog 326 [(false, [sl .v (l.map (kz p1 p2))]), (false, [val (vI f)])] (aF [(false, [sl qJ ((fR l f).map (oQ ae))])]) := by
 refine qN (largs := fun L => [(false, [sl (.lo L) (l.map (kz (.lo L) (.lo L)))]), (false, [val (vI f)])]) (rs := [(false, [sl qJ ((fR l f).map (oQ ae))])]) func326 rfl (nl rfl) (fun L => by exact (aI (aI rfl (aj.cons (bn (fun _ => nl rfl) (fun _ => (aj.cons aC (aj.cons aC (aj.cons (bn (fun _ => nl rfl) (fun _ => (aj.cons aC (aj.cons aC (aj.cons aC aj.nil))))) (aj.cons (bn (fun _ => nl rfl) (fun _ => (aj.cons aC aj.nil))) aj.nil)))))) aj.nil)) (aI (aI rfl (aj.cons aC aj.nil)) tI))) (fun L => by exact lq) ?_
 intro w0 Fz0
 refine sj 0 fun hl0 => ?_
 refine sR ?_
 refine rA ?_ (x := ki (.inr rfl) (by decide) (lG (t := 307) (e := 3)))
 refine sS [0, 1, 4] [] ?_
 refine rA ?_ (x := bm (qs := []) (by decide) mP xl (by decide) rfl rfl rfl rfl rfl (by exact nl rfl) (by exact tI) rfl)
 refine jJ ?_
 refine sS [0, 1, 4, 5] [] ?_
 refine rA ?_ (x := vM false [sl (.lo _) _])
 refine rA ?_ (x := cL [(false, [sl (.lo _) _])] [(false, [sl .v _])] Bu (hs := by exact BI))
 refine gk ?_
 refine cx 13 (fun ga sga => ?_) (fun ga sga => ?_)
 refine mz ?_
 exact Ff
 refine rB ga ?_ (x := sM)
 refine wD ?_
 refine sc (fun hba => ?_) (fun hba => ?_)
 exact Ff
 have hok : (dm l && aB f 0 2) = true := by simp_all
 obtain ⟨hq, hf⟩ := Bool.and_eq_true_iff.1 hok
 have hq2 := oW hq
 refine eA ?_
 refine wB ?_
 refine sL [0, 1, 4] [] (fun k : Nat => k ≤ 100) (fun k : Nat => [(5, RV.slc qJ ((cW l f k).map (oQ ae))), (6, RV.int (k : Int))]) (fun k : Nat => []) (fun k : Nat => 100 - k) 0 (by omega) (by exact aI (by exact rfl) (aI (by exact rfl) tI)) (by exact tI) ?_
 rintro k hk
 refine cI ?_
 refine rA ?_ (x := ir)
 refine sc (fun hbb => ?_) (fun hbb => ?_)
 have hlt : k < 100 := by omega
 have hse : wV l f (k : Int) = fy l f (k : Int) := if_pos (by rw [hq, hf]; simp [aB]; omega)
 have hsl := AX l f k
 have hss := AW l f (k : Int)
 refine wq ?_
 refine rA ?_ (x := vM false [sl (.lo _) _])
 refine rM ?_
 refine rM ?_
 refine rA ?_ (x := cL [(false, [sl (.lo _) _]), (false, [val _]), (false, [val _])] [(false, [sl .v _]), (false, [val _]), (false, [val _])] Tr (hs := by exact (Uv (l := l) (f := f) (v := (k : Int)))))
 refine rA ?_ (x := tA)
 refine sS [0, 1, 4, 5, 6, 7] [] ?_
 refine rA ?_ (x := vM false [sl .v _])
 refine rA ?_ (x := lN mP)
 refine rS ?_
 refine sS [0, 1, 4, 5, 6, 7, 8] [] ?_
 refine rM ?_
 refine rA ?_ (x := dC)
 refine rM ?_
 refine cx 31 (fun gb sgb => ?_) (fun gb sgb => ?_)
 refine rB gb ?_ (x := vM false [sl .v _])
 refine rB gb ?_ (x := sM)
 refine rB gb ?_ (x := gw)
 refine rB gb ?_ (x := aU (k := (cW l f k).length - 1) (by decide) mP (by exact tI) (by omega) (by exact aV (by omega) (by rw [cU (d := jQ) (by omega)])) (by exact rfl))
 refine rB gb ?_ (x := cB (by decide) Ll (by exact nl rfl))
 refine rB gb ?_ (x := lE [sl .v _] bz)
 refine rB gb ?_ (x := vM false [sl .v _])
 refine rB gb ?_ (x := cL [(false, [sl _ _]), (false, [sl _ _])] [(false, [sl .v _]), (false, [sl .v _])] Qa (hs := by exact Ur))
 refine rA ?_ (x := aK gb)
 refine sc (fun hbc => ?_) (fun hbc => ?_)
 have hls : lU (cW l f k) (fy l f (k : Int)) = true := QE (by omega) (by rw [← hse]; simpa using hbc)
 have hl1 : (cW l f k).length - 1 < (cW l f k).length := by omega
 refine sP [0, 1, 4, 5, 6, 7, 8] [] ?_
 refine DD (s := 5) (D := 900) (G := 2900) (E := 307) (e := 3) (L := (Lw w0.heap.size)) (es := ((cW l f k)).map (oQ ae)) (by exact rfl) (iq hl1) (by exact rfl) (by exact rfl) rfl (by exact rfl) (fun x hx => hx) (by exact lq) (by exact tI) (ar.map fun x => (ar.cons lcl_val (ar.cons lcl_val (ar.cons (lcl_own (ar.map fun x => (ar.cons lcl_val ar.nil))) ar.nil)))) fun uu900 cp900 jk900 hlD900 hcp900 hjk900 => ?_
 rw [am] at hlD900 hcp900 hjk900
 refine cK (d := 900) (by exact rfl) (hI (k := ((cW l f k).length - 1)) hl1) ?_
 have hA900 := hJ (f := (oQ ae)) (e := 3) (xs := (cW l f k)) (k := ((cW l f k).length - 1)) (fun _ => rfl) (Nat.le_of_lt hl1)
 refine sO [(0, _), (1, _), (4, _), (5, _), (6, _), (7, _), (8, _), (2900, _)] [(900, (307, _ ++ ([val _, val _, sl _ _] ++ _)))] ?_
 refine bi ?_
 refine rA ?_ (x := vM false [val _])
 refine rM ?_
 refine rA ?_ (x := gw)
 refine rM ?_
 refine rA ?_ (x := gj (k := ((cW l f k).length - 1)) (G := 2900) (by decide) mP (by exact tI) (by omega) (by first | (rw [am]; exact hl1) | exact hl1))
 refine rA ?_ (x := lF Lk)
 refine rA ?_ (x := kX (o := 1) (ag := false) (vs := [val _]) (by omega) aw (by exact tI) (by exact rfl) (by exact nl rfl))
 refine cK (d := 900) (by exact rfl) (kq (⟨((cW l f k).getD ((cW l f k).length - 1) jQ).From, (k : Int), ((cW l f k).getD ((cW l f k).length - 1) jQ).Set⟩) hl1 (by rw [cU (d := jQ) hl1]; exact rfl)) ?_
 refine DE (s := 5) (D := 900) (G := 2900) (e := 3) (es := (((cW l f k)).set ((cW l f k).length - 1) (⟨((cW l f k).getD ((cW l f k).length - 1) jQ).From, (k : Int), ((cW l f k).getD ((cW l f k).length - 1) jQ).Set⟩)).map (oQ ae)) (by exact rfl) (by exact rfl) (by exact rfl) rfl (by decide) (by rw [am, List.length_set, am]) (by intro c hc; obtain ⟨y, _, rfl⟩ := List.mem_map.1 hc; exact rfl) (by rw [am]; exact hjk900) ?_
 refine sG [0, 1, 4, 5, 6, 7, 8] [] ?_
 exact Fg
 exact Fh
 refine oF ?_
 refine eJ ?_
 exact Fh
 have hend : k = 100 := by omega
 refine wn ?_
 refine gz ?_
 exact (aI (by refine bI ?_; unfold fR; rw [if_pos hok, hend]) tI)
def Ux {p1 : Fl} {l : List eb} {v : Int}  (hs : ∀ s ∈ l, s.Set.length ≤ 1048576) : aN prog 329 [(false, [sl .v (l.map (oQ p1))]), (false, [val (vI v)])] (aF [(false, [sl ae ((fS l v).map an)])]) := by
 refine sF func329 fun h0 w0 Fz0 => ?_
 refine sj 0 fun hl0 => ?_
 refine pO ?_
 refine ba ?_
 refine sS [0, 1, 4] [] ?_
 refine wx ?_
 refine sL [0, 1] [] (fun k : Nat => k ≤ l.length ∧ (l.take k).any (gD v) = false) (fun k : Nat => [(5, RV.int (k : Int))]) (fun k : Nat => []) (fun k : Nat => l.length - k) 0 (by exact ⟨by omega, by simp⟩) (by exact aI (by exact rfl) tI) (by exact tI) ?_
 rintro k ⟨hk, ha⟩
 refine iv ?_
 refine rA ?_ (x := lN mP)
 refine rA ?_ (x := dZ)
 refine sc (fun hba => ?_) (fun hba => ?_)
 have hlt : k < l.length := by omega
 refine er ?_
 refine sP [0, 1, 5] [] ?_
 refine rc ?_
 refine gy ?_
 refine dA 6 ?_ (x := aU (by decide) mP (by exact tI) (by exact rfl) (by exact aV (by omega) rfl) (by exact rfl))
 refine dA 14 ?_ (x := cB (by decide) TM (by exact nl rfl))
 refine dA 30 ?_ (x := lE [val _] aw)
 refine gy ?_
 refine dA 192 ?_ (x := aU (by decide) mP (by exact tI) (by exact rfl) (by exact aV (by omega) rfl) (by exact rfl))
 refine dA 448 ?_ (x := cB (by decide) Lk (by exact nl rfl))
 refine dA 960 ?_ (x := lE [val _] aw)
 refine dA 2047 ?_ (x := cL [(false, [val _]), (false, [val _]), (false, [val _])] [(false, [val _]), (false, [val _]), (false, [val _])] fP (hs := by exact fV))
 refine sc (fun hbb => ?_) (fun hbb => ?_)
 have hy : gD v l[k] = true := by simpa [gD] using hbb
 have hst := hs l[k] (List.getElem_mem hlt)
 refine sS [0, 1, 5] [] ?_
 refine rA ?_ (x := bm (qs := []) (by decide) aW bX (by decide) rfl rfl rfl rfl rfl (by exact nl rfl) (by exact tI) rfl)
 refine jI ?_
 refine rA ?_ (x := aU (by decide) mP (by exact tI) (by exact rfl) (by exact aV (by omega) rfl) (by exact rfl))
 refine rA ?_ (x := cB (by decide) Ll (by exact nl rfl))
 refine vu ?_
 refine rA ?_ (x := tA)
 refine dc ?_
 exact (aI (by refine bI ?_; rw [QI hlt ha hy]; exact rfl) tI)
 have hno : gD v l[k] = false := by simpa [gD] using hbb
 refine wy ?_
 exact Fj
 have hend : k = l.length := by omega
 rw [hend, bY] at ha
 refine wz ?_
 refine zl ?_
 refine dc ?_
 exact (aI (by refine bI ?_; rw [QJ ha]; exact rfl) tI)
def BJ {x : ZG}  (hb : eM x ≤ 68719476736) : aN prog 272 [(true, [val (vI x.Id), val (vI x.ZK), sl .v (x.ZH.map dj), sl .v (x.Out.map an)])] (aF [(true, [val (vI x.Id), val (vI x.ZK), sl aP (x.ZH.map dj), sl ae (x.Out.map an)])]) := by
 refine sF func272 fun h0 w0 Fz0 => ?_
 refine sn 0 2 fun hl0_2 => ?_
 refine sn 0 3 fun hl0_3 => ?_
 have hbu := hb
 simp only [eM, dP, bh, ry] at hbu
 refine qY ?_
 refine rX ?_ (x := (db (by decide) lS rC))
 refine ba ?_
 refine tv ?_
 refine dA 0 ?_ (x := lF iB)
 refine dA 1 ?_ (x := lD [val _] aw)
 refine dA 0 ?_ (x := lF tT)
 refine dA 4 ?_ (x := lD [val _] aw)
 refine dA 0 ?_ (x := bm (qs := []) (by decide) gP nI (by decide) rfl rfl rfl rfl rfl (by exact nl rfl) (by exact tI) rfl)
 refine dA 0 ?_ (x := lF kE)
 refine dA 32 ?_ (x := lD [sl .v _] jc)
 refine dA 112 ?_ (x := iW (by decide) gP nI rfl rfl (by decide) (by first | (intro cs hcs; obtain ⟨x, _, rfl⟩ := List.mem_map.1 hcs; exact rfl) | simp) (by first | (intro cs hcs; obtain ⟨x, _, rfl⟩ := List.mem_map.1 hcs; exact (ab.cons (bor_val _) (ab.cons (bor_val _) (ab.cons (bor_val _) ab.nil)))) | simp) (by simp only [am, aD, List.length_cons, List.length_nil]; omega) (by simp only [am, aD, List.length_cons, List.length_nil]; omega))
 refine dA 0 ?_ (x := bm (qs := []) (by decide) aW bX (by decide) rfl rfl rfl rfl rfl (by exact nl rfl) (by exact tI) rfl)
 refine dA 0 ?_ (x := lF oT)
 refine Hy ?_
 refine dA 4095 ?_ (x := dM (qs := [(false, [val _]), (false, [val _]), (false, [sl _ _]), (false, [sl _ _])]) (cs := [val _, val _, sl _ _, sl _ _]) (by decide) lS rC Us (by exact rfl) (by exact (aI (by exact tI) (aI (by exact tI) (aI (by exact tI) (aI (by exact tI) tI))))) rfl (by exact rfl))
 refine dA 8191 ?_ (x := bf (ag := true) (vs := [val _, val _, sl _ _, sl _ _]) fh (by exact tI) (by exact rfl) (by exact nl rfl))
 refine dc ?_
 exact (bj 2 (bj _ (aI (by exact rfl) (aI (by exact rfl) (aI fh (aI (fun h => nomatch h) tI))))))
def Uy {p1 p2 : Fl} {x : List ZG}  (hb : wI x ≤ 68719476736) : aN prog 325 [(false, [sl .v (x.map (kz p1 p2))])] (aF [(false, [sl pz (x.map (kz aP ae))])]) := by
 refine sF func325 fun h0 w0 Fz0 => ?_
 refine sj 0 fun hl0 => ?_
 have hbu := hb
 simp only [wI] at hbu
 refine sR ?_
 refine rA ?_ (x := ki (.inr rfl) (by decide) (lG (t := 25) (e := 4)))
 refine sS [0, 2] [] ?_
 refine Jh ?_
 refine oI ?_
 refine sL [0, 2] [] (fun k : Nat => k ≤ x.length) (fun k : Nat => [(3, RV.slc pz ((x.take k).map (kz aP ae))), (4, RV.int (k : Int))]) (fun k : Nat => []) (fun k : Nat => x.length - k) 0 (by omega) (by exact aI (by first | exact rfl | simp) (aI (by exact rfl) tI)) (by exact tI) ?_
 rintro k hk
 refine iv ?_
 refine wk ?_
 refine sc (fun hba => ?_) (fun hba => ?_)
 have hlt : k < x.length := by omega
 have hwm := fe (f := eM) hlt
 have htl : (x.take k).length = k := by rw [bg]; omega
 refine bw ?_
 refine sS [0, 2, 3, 4] [] ?_
 refine vV ?_
 refine rA ?_ (x := lE [val _, val _, sl .v _, sl .v _] fh)
 refine rA ?_ (x := cL [(true, [val _, val _, sl _ _, sl _ _])] [(true, [val _, val _, sl .v _, sl .v _])] Br (hs := by exact BJ (by omega)))
 refine vJ ?_
 refine sH [0, 2, 3, 4, 5] [5] ?_
 refine rA ?_ (x := tM)
 refine rA ?_ (x := dH (ms := [val _, val _, sl _ _, sl _ _]) (qs := [val _, val _, sl .v _, sl .v _]) (by decide) fh (fun h => nomatch h) (by exact nl rfl) (by exact rfl) (by exact (aq (aq (aA (aA ao.nil))))) (by exact lq))
 refine rA ?_ (x := bm (qs := [(true, [val _, val _, sl _ _, sl _ _])]) (by decide) ma lS (by decide) rfl rfl rfl rfl rfl (by exact nl rfl) (by exact (aI (by exact tI) tI)) rfl)
 refine rA ?_ (x := dy (by decide) ma lS rfl rfl (by decide) rfl (by simp only [am, aD, List.length_cons, List.length_nil]; omega) (by simp only [am, aD, List.length_cons, List.length_nil]; omega))
 refine rA ?_ (x := tA)
 refine sH [0, 2, 3, 4, 5] [5] ?_
 exact yN
 exact yO
end Go.Proofs.YtmekkgdboplbjaaGreatDoor
