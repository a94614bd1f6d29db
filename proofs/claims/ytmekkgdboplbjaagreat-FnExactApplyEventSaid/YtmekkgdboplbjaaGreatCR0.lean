/- What functions of the program compute. No condition. -/
import Derived.Test.YtmekkgdboplbjaaGreatCM0
import Derived.Test.YtmekkgdboplbjaaGreatCP0
import Derived.Test.YtmekkgdboplbjaaGreatCQ0
set_option linter.all false
namespace Go.Proofs.YtmekkgdboplbjaaGreat
open Go Go.RowKit M PV Tryz
set_option maxRecDepth 10000
attribute [local irreducible] PV.Lcl PV.LclR RV.Lcl
def TZ : fO prog 268 = some [(0, 1), (1, 1), (2, 1)] := by kernel_rfl
def T0 : fO prog 52 = some [(0, 1), (1, 1), (2, 1), (3, 1)] := by kernel_rfl
def Bj {p1 p2 : Fl} {l : List Wt}  : aC prog 244 [(false, [sl .v (l.map (iz p1 p2))])] (az [(false, [val (.bool (di l))])]) := by
 refine sF func244 fun h0 w0 Fz0 => ?_
 refine sj 0 fun hl0 => ?_
 refine pq ?_
 refine qV ?_
 refine sL [0] [] (fun k : Nat => k ≤ l.length ∧ jQ rt cv pT l k = true) (fun k : Nat => [(3, RV.int (k : Int))]) (fun k : Nat => []) (fun k : Nat => l.length - k) 0 (by exact ⟨by omega, rfl⟩) (by exact aI (by exact rfl) tI) (by exact tI) ?_
 rintro k ⟨hk, ha⟩
 refine cQ ?_
 refine vp ?_
 refine sc (fun hba => ?_) (fun hba => ?_)
 have hlt : k < l.length := by omega
 have hgk : l.getD k rt = l[k] := gn hlt
 have hgp : 0 < k → l.getD (k - 1) rt = l[k - 1] := fun h => gn (by omega)
 refine cF ?_
 refine sP [0, 3] [] ?_
 refine nN ?_
 refine dA 3 ?_ (x := aY (by decide) la (by exact tI) (by exact rfl) (by exact be (by omega) rfl) (by exact rfl))
 refine dA 7 ?_ (x := lE [val _, val _, sl .v _, sl .v _] eK)
 refine dA 15 ?_ (x := cL [(true, [val _, val _, sl _ _, sl _ _])] [(true, [val _, val _, sl .v _, sl .v _])] wi (hs := by exact wD))
 refine dA 31 ?_ (x := nT)
 refine dA 63 ?_ (x := sM)
 refine dx 16 (fun ga sga => ?_) (fun ga sga => ?_)
 refine dT 127 ga ?_
 refine dT 255 ga ?_
 refine dT 511 ga ?_
 refine dU 1023 ?_
 refine dU 1023 ?_
 refine dU 4095 ?_
 refine dU 8191 ?_
 refine dU 16383 ?_
 refine dU 1023 ?_
 refine dU 1023 ?_
 refine dU 66559 ?_
 refine dU 230399 ?_
 refine dU 492543 ?_
 refine dU 1016831 ?_
 refine dU 2097151 ?_
 refine dT 4194303 ga ?_
 refine dA 8388607 ?_ (x := aR ga)
 refine dc ?_
 exact Eb
 refine dB 127 ga ?_ (x := sM)
 refine dB 255 ga ?_ (x := eg)
 refine dB 511 ga ?_ (x := sM)
 refine dx 19 (fun gb sgb => ?_) (fun gb sgb => ?_)
 refine vg ?_
 refine dB 4095 gb ?_ (x := aY (by decide) la (by exact tI) (by exact rfl) (by exact be (by omega) rfl) (by exact rfl))
 refine dB 8191 gb ?_ (x := bE (by decide) e8 (by exact nl rfl))
 refine dB 16383 gb ?_ (x := lE [val _] au)
 refine vg ?_
 refine dB 66559 gb ?_ (x := gS)
 refine dB 230399 gb ?_ (x := aY (k := k - 1) (by decide) la (by exact tI) (by omega) (by exact be (by omega) rfl) (by exact rfl))
 refine dB 492543 gb ?_ (x := bE (by decide) e8 (by exact nl rfl))
 refine dB 1016831 gb ?_ (x := lE [val _] au)
 refine dB 2097151 gb ?_ (x := ir)
 refine dB 4194303 ga ?_ (x := aR gb)
 refine dA 8388607 ?_ (x := aK ga)
 refine sc (fun hbb => ?_) (fun hbb => ?_)
 exact Eb
 exact Ec
 refine vU ?_
 refine dF 4095 gb ?_
 refine dF 8191 gb ?_
 refine dF 16383 gb ?_
 refine vU ?_
 refine dF 66559 gb ?_
 refine dF 230399 gb ?_
 refine dF 492543 gb ?_
 refine dF 1016831 gb ?_
 refine dF 2097151 gb ?_
 refine dB 4194303 ga ?_ (x := aK gb)
 refine dA 8388607 ?_ (x := aK ga)
 refine fh ?_
 exact Ec
 have hend : k = l.length := by omega
 have hall : ew rt cv pT l = true := pL ha hend
 refine qX ?_
 refine rA ?_ (x := vM false [sl .v _])
 refine rA ?_ (x := lN la)
 refine rA ?_ (x := ir)
 refine d5 ?_
 exact rb (by simp [di, hall])
def T1 {q : Wt} {f : Int} {v : Int}  : aC prog 283 [(true, [val (vI q.Id), val (vI q.Wx), sl .v (q.Wu.map bf), sl .v (q.Out.map ak)]), (false, [val (vI f)]), (false, [val (vI v)])] (az [(false, [val (.bool (ie q f v))])]) := by
 refine sF func283 fun h0 w0 Fz0 => ?_
 refine sn 0 2 fun hl0_2 => ?_
 refine sn 0 3 fun hl0_3 => ?_
 refine mw ?_
 refine dz ?_
 refine sT [1, 2, 3, 6] [3] ?_
 refine cz ?_
 refine sP [1, 2, 3, 6, 7] [3] ?_
 refine sL [1, 2, 3] [3] (fun k : Nat => k ≤ q.Wu.length ∧ (q.Wu.take k).all (gX f v) = true) (fun k : Nat => [(7, RV.int (k : Int))]) (fun k : Nat => []) (fun k : Nat => q.Wu.length - k) 0 (by exact ⟨by omega, by simp⟩) (by exact aI (by exact rfl) tI) (by exact tI) ?_
 rintro k ⟨hk, ha⟩
 refine d6 ?_
 refine ph ?_
 refine vq ?_
 refine sc (fun hba => ?_) (fun hba => ?_)
 have hlt : k < q.Wu.length := by omega
 refine cF ?_
 refine sQ [1, 2, 3, 7] [3] ?_
 refine db cJ ?_
 refine dA 0 ?_ (x := lF i6)
 refine dA 1 ?_ (x := lD [sl .v _] i7)
 refine Ig ?_
 refine dA 15 ?_ (x := bE (by decide) kR (by exact nl rfl))
 refine dA 31 ?_ (x := lE [val _] au)
 refine dA 0 ?_ (x := sM)
 refine dA 127 ?_ (x := d4)
 refine dA 255 ?_ (x := sM)
 refine dx 23 (fun ga sga => ?_) (fun ga sga => ?_)
 refine dB 511 ga ?_ (x := sM)
 refine dB 511 ga ?_ (x := lF i6)
 refine dB 1535 ga ?_ (x := lD [sl .v _] i7)
 refine dB 511 ga ?_ (x := sM)
 refine dB 7679 ga ?_ (x := aY (by decide) dZ (by exact tI) (by exact rfl) (by exact be (by omega) rfl) (by exact rfl))
 refine dB 15871 ga ?_ (x := bE (by decide) om (by exact nl rfl))
 refine dB 32255 ga ?_ (x := lE [val _] au)
 refine dB 511 ga ?_ (x := lF i6)
 refine dB 66047 ga ?_ (x := lD [sl .v _] i7)
 refine dB 511 ga ?_ (x := sM)
 refine dB 459263 ga ?_ (x := aY (by decide) dZ (by exact tI) (by exact rfl) (by exact be (by omega) rfl) (by exact rfl))
 refine dB 983551 ga ?_ (x := bE (by decide) kS (by exact nl rfl))
 refine dB 2032127 ga ?_ (x := lE [val _] au)
 refine dB 4194303 ga ?_ (x := cL [(false, [val _]), (false, [val _]), (false, [val _])] [(false, [val _]), (false, [val _]), (false, [val _])] fF (hs := by exact fJ))
 refine dB 8388607 ga ?_ (x := nT)
 refine dA 16777215 ?_ (x := aR ga)
 refine sc (fun hbb => ?_) (fun hbb => ?_)
 have hno : gX f v q.Wu[k] = false := by simp_all [gX]
 refine sS [1, 2, 3, 7] [3] ?_
 exact Ed
 exact Ee
 refine dF 511 ga ?_
 refine dF 511 ga ?_
 refine dF 1535 ga ?_
 refine dF 511 ga ?_
 refine dF 7679 ga ?_
 refine dF 15871 ga ?_
 refine dF 32255 ga ?_
 refine dF 511 ga ?_
 refine dF 66047 ga ?_
 refine dF 511 ga ?_
 refine dF 459263 ga ?_
 refine dF 983551 ga ?_
 refine dF 2032127 ga ?_
 refine dF 4194303 ga ?_
 refine dF 8388607 ga ?_
 refine dA 16777215 ?_ (x := aK ga)
 refine fh ?_
 exact Ee
 have hall : q.Wu.all (gX f v) = true := jm (by rw [show q.Wu.length = k by omega]; exact ha)
 refine bF ?_
 refine sT [1, 2, 3, 7] [3] ?_
 exact Ef
def T3 {p1 p2 : Fl} {l : List Wt} {f : Int} {v : Int}  : aC prog 279 [(false, [sl .v (l.map (iz p1 p2))]), (false, [val (vI f)]), (false, [val (vI v)])] (az [(false, [sl aa ((wm l f v).map ak)])]) := by
 refine sF func279 fun h0 w0 Fz0 => ?_
 refine sj 0 fun hl0 => ?_
 refine nJ ?_
 refine sS [0, 1, 2, 6] [] ?_
 refine mD ?_
 refine sS [0, 1, 2, 6, 7] [] ?_
 refine cz ?_
 refine sP [0, 1, 2, 6, 7, 8] [] ?_
 refine sL [0, 1, 2, 6] [] (fun k : Nat => k ≤ l.length ∧ (0 < k → (di l && (aV f 0 2 && aV v 0 99)) = true)) (fun k : Nat => [(7, RV.slc aa ((fm (l.take k) f v).map ak)), (8, RV.int (k : Int))]) (fun k : Nat => []) (fun k : Nat => l.length - k) 0 (by exact ⟨by omega, fun h => absurd h (Nat.lt_irrefl 0)⟩) (by exact aI (by exact rfl) (aI (by exact rfl) tI)) (by exact tI) ?_
 rintro k ⟨hk, ha⟩
 refine cQ ?_
 refine vp ?_
 refine rM ?_
 refine cx 14 (fun ga sga => ?_) (fun ga sga => ?_)
 refine rB ga ?_ (x := vM false [sl .v _])
 refine rB ga ?_ (x := cL [(false, [sl _ _])] [(false, [sl .v _])] A3 (hs := by exact Bj))
 refine gk ?_
 refine cx 18 (fun gb sgb => ?_) (fun gb sgb => ?_)
 refine rB gb ?_ (x := sM)
 refine yU ?_
 refine cx 22 (fun gc sgc => ?_) (fun gc sgc => ?_)
 refine HB ?_
 refine rA ?_ (x := aR gc)
 refine sc (fun hba => ?_) (fun hba => ?_)
 have hok : (di l && (aV f 0 2 && aV v 0 99)) = true := by simp_all
 have hok2 := ot (Bool.and_eq_true_iff.1 hok).1
 have hlt : k < l.length := (by first | omega | (simp_all; done) | (simp_all; omega))
 have hsl := AS (l.take k) f v
 rw [bv] at hsl
 refine bB ?_
 refine sS [0, 1, 2, 6, 7, 8] [] ?_
 refine uX ?_
 refine rA ?_ (x := lE [val _, val _, sl .v _, sl .v _] eK)
 refine j8 ?_
 refine rA ?_ (x := cL [(true, [val _, val _, sl _ _, sl _ _]), (false, [val _]), (false, [val _])] [(true, [val _, val _, sl .v _, sl .v _]), (false, [val _]), (false, [val _])] R8 (hs := by exact T1))
 refine sc (fun hbb => ?_) (fun hbb => ?_)
 have hc := hbb
 refine sG [0, 1, 2, 6, 7, 8] [] ?_
 refine rA ?_ (x := tM)
 refine uX ?_
 refine rA ?_ (x := bE (by decide) e8 (by exact nl rfl))
 refine vw ?_
 exact Eg
 have hc := hbb
 refine bl ?_
 exact Eg
 exact un
 refine nL ?_
 refine fh ?_
 exact un
 refine fQ ?_
 refine aq.cases (s := 22) rfl (fun g7 => nomatch g7) (fun g7 => ?_)
 refine s5 ?_
 refine fh ?_
 exact un
 refine gA ?_
 refine aq.cases (s := 18) rfl (fun g9 => nomatch g9) (fun g9 => ?_)
 refine pm ?_
 refine rM ?_
 refine aq.cases (s := 22) rfl (fun g10 => nomatch g10) (fun g10 => ?_)
 refine pj ?_
 refine fh ?_
 exact un
def T4 {p1 p2 : Fl} {l : List Wt} {f : Int}  : aC prog 246 [(false, [sl .v (l.map (iz p1 p2))]), (false, [val (vI f)])] (az [(false, [sl qt ((fS l f).map (oi aa))])]) := by
 refine j3 (largs := fun L => [(false, [sl (.lo L) (l.map (iz (.lo L) (.lo L)))]), (false, [val (vI f)])]) (rs := [(false, [sl qt ((fS l f).map (oi aa))])]) func246 rfl (nl rfl) (fun L => by exact (aI (aI rfl (ab.cons (aM (fun _ => nl rfl) (fun _ => (ab.cons ap (ab.cons ap (ab.cons (aM (fun _ => nl rfl) (fun _ => (ab.cons ap (ab.cons ap (ab.cons ap ab.nil))))) (ab.cons (aM (fun _ => nl rfl) (fun _ => (ab.cons ap ab.nil))) ab.nil)))))) ab.nil)) (aI (aI rfl (ab.cons ap ab.nil)) tI))) (fun L => by exact lq) ?_
 intro w0 Fz0
 refine sj 0 fun hl0 => ?_
 refine sR ?_
 refine rA ?_ (x := ik (.inr rfl) (by decide) (jf (t := 268) (e := 3)))
 refine sS [0, 1, 4] [] ?_
 refine rA ?_ (x := b9 (qs := []) (by decide) ma wz (by decide) rfl rfl rfl rfl rfl (by exact nl rfl) (by exact tI) rfl)
 refine qP ?_
 refine sS [0, 1, 4, 5] [] ?_
 refine rA ?_ (x := vM false [sl (.lo _) _])
 refine rA ?_ (x := cL [(false, [sl (.lo _) _])] [(false, [sl .v _])] A3 (hs := by exact Bj))
 refine fB ?_
 refine cx 13 (fun ga sga => ?_) (fun ga sga => ?_)
 refine mH ?_
 exact Eh
 refine rB ga ?_ (x := sM)
 refine yV ?_
 refine sc (fun hba => ?_) (fun hba => ?_)
 exact Eh
 have hok : (di l && aV f 0 2) = true := by simp_all
 obtain ⟨hq, hf⟩ := Bool.and_eq_true_iff.1 hok
 have hq2 := ot hq
 refine cO ?_
 refine sS [0, 1, 4, 5] [] ?_
 refine cz ?_
 refine sP [0, 1, 4, 5, 6] [] ?_
 refine sL [0, 1, 4] [] (fun k : Nat => k ≤ 100) (fun k : Nat => [(5, RV.slc qt ((cW l f k).map (oi aa))), (6, RV.int (k : Int))]) (fun k : Nat => []) (fun k : Nat => 100 - k) 0 (by omega) (by exact aI (by exact rfl) (aI (by exact rfl) tI)) (by exact tI) ?_
 rintro k hk
 refine d6 ?_
 refine rA ?_ (x := ir)
 refine sc (fun hbb => ?_) (fun hbb => ?_)
 have hlt : k < 100 := by omega
 have hse : wm l f (k : Int) = fm l f (k : Int) := if_pos (by rw [hq, hf]; simp [aV]; omega)
 have hsl := AT l f k
 have hss := AS l f (k : Int)
 refine bB ?_
 refine sS [0, 1, 4, 5, 6] [] ?_
 refine rA ?_ (x := vM false [sl (.lo _) _])
 refine j8 ?_
 refine rA ?_ (x := cL [(false, [sl (.lo _) _]), (false, [val _]), (false, [val _])] [(false, [sl .v _]), (false, [val _]), (false, [val _])] R7 (hs := by exact (T3 (l := l) (f := f) (v := (k : Int)))))
 refine rA ?_ (x := tA)
 refine sS [0, 1, 4, 5, 6, 7] [] ?_
 refine rA ?_ (x := vM false [sl .v _])
 refine rA ?_ (x := lN ma)
 refine rS ?_
 refine sS [0, 1, 4, 5, 6, 7, 8] [] ?_
 refine rM ?_
 refine rA ?_ (x := eg)
 refine rM ?_
 refine cx 31 (fun gb sgb => ?_) (fun gb sgb => ?_)
 refine rB gb ?_ (x := vM false [sl .v _])
 refine rB gb ?_ (x := sM)
 refine rB gb ?_ (x := gS)
 refine rB gb ?_ (x := aY (k := (cW l f k).length - 1) (by decide) ma (by exact tI) (by omega) (by exact be (by omega) (by rw [ic (d := jB) (by omega)])) (by exact rfl))
 refine rB gb ?_ (x := bE (by decide) KW (by exact nl rfl))
 refine rB gb ?_ (x := lE [sl .v _] bq)
 refine rB gb ?_ (x := vM false [sl .v _])
 refine rB gb ?_ (x := cL [(false, [sl _ _]), (false, [sl _ _])] [(false, [sl .v _]), (false, [sl .v _])] PZ (hs := by exact TX))
 refine rA ?_ (x := aR gb)
 refine sc (fun hbc => ?_) (fun hbc => ?_)
 have hls : kW (cW l f k) (fm l f (k : Int)) = true := QM (by omega) (by rw [← hse]; simpa using hbc)
 have hl1 : (cW l f k).length - 1 < (cW l f k).length := by omega
 refine sP [0, 1, 4, 5, 6, 7, 8] [] ?_
 refine CH (s := 5) (D := 900) (G := 2900) (E := 268) (e := 3) (L := (Lw w0.heap.size)) (es := ((cW l f k)).map (oi aa)) (by exact rfl) (hP hl1) (by exact rfl) (by exact rfl) rfl (by exact rfl) (fun x hx => hx) (by exact lq) (by exact tI) (ai.map fun x => (ai.cons lcl_val (ai.cons lcl_val (ai.cons (lcl_own (ai.map fun x => (ai.cons lcl_val ai.nil))) ai.nil)))) fun uu900 cp900 jk900 hlD900 hcp900 hjk900 => ?_
 rw [ar] at hlD900 hcp900 hjk900
 refine bV (d := 900) (by exact rfl) (hO (k := ((cW l f k).length - 1)) hl1) ?_
 have hA900 := iq (f := (oi aa)) (e := 3) (xs := (cW l f k)) (k := ((cW l f k).length - 1)) (fun _ => rfl) (Nat.le_of_lt hl1)
 refine sO [(0, _), (1, _), (4, _), (5, _), (6, _), (7, _), (8, _), (2900, _)] [(900, (268, _ ++ ([val _, val _, sl _ _] ++ _)))] ?_
 refine ba ?_
 refine rA ?_ (x := vM false [val _])
 refine rM ?_
 refine rA ?_ (x := gS)
 refine rM ?_
 refine rA ?_ (x := gR (k := ((cW l f k).length - 1)) (G := 2900) (by decide) ma (by exact tI) (by omega) (by first | (rw [ar]; exact hl1) | exact hl1))
 refine rA ?_ (x := lF KV)
 refine rA ?_ (x := fP (o := 1) (ag := false) (vs := [val _]) (by omega) au (by exact tI) (by exact rfl) (by exact nl rfl))
 refine bV (d := 900) (by exact rfl) (lr (⟨((cW l f k).getD ((cW l f k).length - 1) jB).From, (k : Int), ((cW l f k).getD ((cW l f k).length - 1) jB).Set⟩) hl1 (by rw [ic (d := jB) hl1]; exact rfl)) ?_
 refine CI (s := 5) (D := 900) (G := 2900) (e := 3) (es := (((cW l f k)).set ((cW l f k).length - 1) (⟨((cW l f k).getD ((cW l f k).length - 1) jB).From, (k : Int), ((cW l f k).getD ((cW l f k).length - 1) jB).Set⟩)).map (oi aa)) (by exact rfl) (by exact rfl) (by exact rfl) rfl (by decide) (by rw [ar, List.length_set, ar]) (by intro c hc; obtain ⟨y, _, rfl⟩ := List.mem_map.1 hc; exact rfl) (by rw [ar]; exact hjk900) ?_
 refine sG [0, 1, 4, 5, 6, 7, 8] [] ?_
 exact Ei
 exact Ej
 refine s4 ?_
 refine fh ?_
 exact Ej
 have hend : k = 100 := by omega
 refine bF ?_
 refine sS [0, 1, 4, 5, 6] [] ?_
 refine mC ?_
 exact (aI (by refine cr ?_; unfold fS; rw [if_pos hok, hend]) tI)
def T5 {p1 : Fl} {l : List dW} {v : Int}  (hs : ∀ s ∈ l, s.Set.length ≤ 1048576) : aC prog 249 [(false, [sl .v (l.map (oi p1))]), (false, [val (vI v)])] (az [(false, [sl aa ((fT l v).map ak)])]) := by
 refine sF func249 fun h0 w0 Fz0 => ?_
 refine sj 0 fun hl0 => ?_
 refine nJ ?_
 refine aP ?_
 refine yG ?_
 refine sL [0, 1] [] (fun k : Nat => k ≤ l.length ∧ (l.take k).any (gG v) = false) (fun k : Nat => [(5, RV.int (k : Int))]) (fun k : Nat => []) (fun k : Nat => l.length - k) 0 (by exact ⟨by omega, by simp⟩) (by exact aI (by exact rfl) tI) (by exact tI) ?_
 rintro k ⟨hk, ha⟩
 refine cQ ?_
 refine rA ?_ (x := lN ma)
 refine rA ?_ (x := cy)
 refine sc (fun hba => ?_) (fun hba => ?_)
 have hlt : k < l.length := by omega
 refine cF ?_
 refine sP [0, 1, 5] [] ?_
 refine db cJ ?_
 refine dA 0 ?_ (x := sM)
 refine eE ?_
 refine dA 6 ?_ (x := aY (by decide) ma (by exact tI) (by exact rfl) (by exact be (by omega) rfl) (by exact rfl))
 refine dA 14 ?_ (x := bE (by decide) Su (by exact nl rfl))
 refine dA 30 ?_ (x := lE [val _] au)
 refine eE ?_
 refine dA 192 ?_ (x := aY (by decide) ma (by exact tI) (by exact rfl) (by exact be (by omega) rfl) (by exact rfl))
 refine dA 448 ?_ (x := bE (by decide) KV (by exact nl rfl))
 refine dA 960 ?_ (x := lE [val _] au)
 refine dA 2047 ?_ (x := cL [(false, [val _]), (false, [val _]), (false, [val _])] [(false, [val _]), (false, [val _]), (false, [val _])] fF (hs := by exact fJ))
 refine sc (fun hbb => ?_) (fun hbb => ?_)
 have hy : gG v l[k] = true := by simpa [gG] using hbb
 have hst := hs l[k] (List.getElem_mem hlt)
 refine sS [0, 1, 5] [] ?_
 refine rA ?_ (x := b9 (qs := []) (by decide) bC ej (by decide) rfl rfl rfl rfl rfl (by exact nl rfl) (by exact tI) rfl)
 refine lv ?_
 refine rA ?_ (x := aY (by decide) ma (by exact tI) (by exact rfl) (by exact be (by omega) rfl) (by exact rfl))
 refine rA ?_ (x := bE (by decide) KW (by exact nl rfl))
 refine yp ?_
 refine rA ?_ (x := tA)
 refine dR ?_
 exact (aI (by refine cr ?_; rw [QQ hlt ha hy]; exact rfl) tI)
 have hno : gG v l[k] = false := by simpa [gG] using hbb
 refine bl ?_
 refine sG [0, 1, 5] [] ?_
 exact El
 have hend : k = l.length := by omega
 rw [hend, cb] at ha
 refine ve ?_
 refine Gk ?_
 refine dR ?_
 exact (aI (by refine cr ?_; rw [QR ha]; exact rfl) tI)
def wE {x : Wt}  (hb : ce x ≤ 68719476736) : aC prog 156 [(true, [val (vI x.Id), val (vI x.Wx), sl .v (x.Wu.map bf), sl .v (x.Out.map ak)])] (az [(true, [val (vI x.Id), val (vI x.Wx), sl ay (x.Wu.map bf), sl aa (x.Out.map ak)])]) := by
 refine sF func156 fun h0 w0 Fz0 => ?_
 refine sn 0 2 fun hl0_2 => ?_
 refine sn 0 3 fun hl0_3 => ?_
 have hbu := hb
 simp only [ce, dM, a9, iy] at hbu
 refine zQ ?_
 refine aP ?_
 refine lC ?_
 refine dA 0 ?_ (x := lF e8)
 refine dA 1 ?_ (x := lD [val _] au)
 refine dA 0 ?_ (x := lF i5)
 refine dA 4 ?_ (x := lD [val _] au)
 refine dA 0 ?_ (x := b9 (qs := []) (by decide) dZ mS (by decide) rfl rfl rfl rfl rfl (by exact nl rfl) (by exact tI) rfl)
 refine dA 0 ?_ (x := lF i6)
 refine dA 32 ?_ (x := lD [sl .v _] i7)
 refine dA 112 ?_ (x := il (by decide) dZ mS rfl rfl (by decide) (by first | (intro cs hcs; obtain ⟨x, _, rfl⟩ := List.mem_map.1 hcs; exact rfl) | simp) (by first | (intro cs hcs; obtain ⟨x, _, rfl⟩ := List.mem_map.1 hcs; exact (ao.cons (bor_val _) (ao.cons (bor_val _) (ao.cons (bor_val _) ao.nil)))) | simp) (by simp only [ar, aU, List.length_cons, List.length_nil]; omega) (by simp only [ar, aU, List.length_cons, List.length_nil]; omega))
 refine dA 0 ?_ (x := b9 (qs := []) (by decide) bC ej (by decide) rfl rfl rfl rfl rfl (by exact nl rfl) (by exact tI) rfl)
 refine dA 0 ?_ (x := lF jv)
 refine Gv ?_
 refine dA 4095 ?_ (x := eV (qs := [(false, [val _]), (false, [val _]), (false, [sl _ _]), (false, [sl _ _])]) (cs := [val _, val _, sl _ _, sl _ _]) (by decide) lZ tv T0 (by exact rfl) (by exact (aI (by exact tI) (aI (by exact tI) (aI (by exact tI) (aI (by exact tI) tI))))) rfl (by exact rfl))
 refine dA 8191 ?_ (x := bd (ag := true) (vs := [val _, val _, sl _ _, sl _ _]) eK (by exact tI) (by exact rfl) (by exact nl rfl))
 exact Dr
def T6 {p1 p2 : Fl} {x : List Wt}  (hb : wa x ≤ 68719476736) : aC prog 245 [(false, [sl .v (x.map (iz p1 p2))])] (az [(false, [sl oK (x.map (iz ay aa))])]) := by
 refine sF func245 fun h0 w0 Fz0 => ?_
 refine sj 0 fun hl0 => ?_
 have hbu := hb
 simp only [wa] at hbu
 refine sR ?_
 refine rA ?_ (x := ik (.inr rfl) (by decide) (jf (t := 52) (e := 4)))
 refine sS [0, 2] [] ?_
 refine Ik ?_
 refine vX ?_
 refine sL [0, 2] [] (fun k : Nat => k ≤ x.length) (fun k : Nat => [(3, RV.slc oK ((x.take k).map (iz ay aa))), (4, RV.int (k : Int))]) (fun k : Nat => []) (fun k : Nat => x.length - k) 0 (by omega) (by exact aI (by first | exact rfl | simp) (aI (by exact rfl) tI)) (by exact tI) ?_
 rintro k hk
 refine cQ ?_
 refine vp ?_
 refine sc (fun hba => ?_) (fun hba => ?_)
 have hlt : k < x.length := by omega
 have hwm := cR (f := ce) hlt
 have htl : (x.take k).length = k := by rw [bv]; omega
 refine bB ?_
 refine sS [0, 2, 3, 4] [] ?_
 refine uX ?_
 refine rA ?_ (x := lE [val _, val _, sl .v _, sl .v _] eK)
 refine rA ?_ (x := cL [(true, [val _, val _, sl _ _, sl _ _])] [(true, [val _, val _, sl .v _, sl .v _])] ww (hs := by exact wE (by omega)))
 refine rX ?_ (x := (bR (by decide) lZ tv))
 refine rA ?_ (x := bd (ag := true) (vs := [val _, val _, sl _ _, sl _ _]) eK (by exact tI) (by exact rfl) (by exact nl rfl))
 refine sH [0, 2, 3, 4, 5] [5] ?_
 refine rA ?_ (x := tM)
 refine rA ?_ (x := cl (ms := [val _, val _, sl _ _, sl _ _]) (qs := [val _, val _, sl .v _, sl .v _]) (by decide) eK (fun h => nomatch h) (by exact nl rfl) (by exact rfl) (by exact (an (an (aF (aF am.nil))))) (by exact lq))
 refine rA ?_ (x := b9 (qs := [(true, [val _, val _, sl _ _, sl _ _])]) (by decide) la lZ (by decide) rfl rfl rfl rfl rfl (by exact nl rfl) (by exact (aI (by exact tI) tI)) rfl)
 refine rA ?_ (x := eC (by decide) la lZ rfl rfl (by decide) rfl (by simp only [ar, aU, List.length_cons, List.length_nil]; omega) (by simp only [ar, aU, List.length_cons, List.length_nil]; omega))
 refine rA ?_ (x := tA)
 refine sH [0, 2, 3, 4, 5] [5] ?_
 exact xW
 exact xX
end Go.Proofs.YtmekkgdboplbjaaGreat
