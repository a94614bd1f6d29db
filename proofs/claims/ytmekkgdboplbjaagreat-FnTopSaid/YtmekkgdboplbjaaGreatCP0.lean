/- What functions of the program compute. No condition. -/
import Derived.Test.YtmekkgdboplbjaaGreatCL0
import Derived.Test.YtmekkgdboplbjaaGreatCO0
import Derived.Test.YtmekkgdboplbjaaGreatCH0
set_option linter.all false
namespace Go.Proofs.YtmekkgdboplbjaaGreat
open Go Go.RowKit M PV Tryz
set_option maxRecDepth 10000
attribute [local irreducible] PV.Lcl PV.LclR RV.Lcl
def acE : dY prog 268 = some [(0, 1), (1, 1), (2, 1)] := by kernel_rfl
def acF : dY prog 52 = some [(0, 1), (1, 1), (2, 1), (3, 1)] := by kernel_rfl
def GN {p1 p2 : Fl} {l : List aeA}  : aN prog 244 [(false, [sl .v (l.map (ln p1 p2))])] (aJ [(false, [val (.bool (dK l))])]) := by
 refine sF func244 fun h0 w0 Fz0 => ?_
 refine sj 0 fun hl0 => ?_
 refine tE ?_
 refine sL [0] [] (fun k : Nat => k ≤ l.length ∧ jV tU ck rt l k = true) (fun k : Nat => [(3, RV.int (k : Int))]) (fun k : Nat => []) (fun k : Nat => l.length - k) 0 (by exact ⟨by omega, rfl⟩) (by exact aI (by exact rfl) tI) (by exact tI) ?_
 rintro k ⟨hk, ha⟩
 refine oq ?_
 refine yS ?_
 refine sc ?_ ?_ <;> intro hba
 have hlt : k < l.length := by omega
 have hgk : l.getD k tU = l[k] := eO hlt
 have hgp : 0 < k → l.getD (k - 1) tU = l[k - 1] := fun h => eO (by omega)
 refine dh ?_
 refine sP [0, 3] [] ?_
 refine pu ?_
 refine dA 3 ?_ (x := aU (by decide) mP (by exact tI) (by exact rfl) (by exact aW (by omega) rfl) (by exact rfl))
 refine dA 7 ?_ (x := lE [val _, val _, sl .v _, sl .v _] eQ)
 refine dA 15 ?_ (x := cL [(true, [val _, val _, sl _ _, sl _ _])] [(true, [val _, val _, sl .v _, sl .v _])] tQ (hs := by exact ur))
 refine dA 31 ?_ (x := nT)
 refine dA 63 ?_ (x := sM)
 refine dx 16 (fun ga sga => ?_) (fun ga sga => ?_)
 refine dT 127 ga ?_
 refine dT 255 ga ?_
 refine dT 511 ga ?_
 refine tv ?_
 refine wk ?_
 refine dU 16383 ?_
 refine tv ?_
 refine dU 66559 ?_
 refine dU 230399 ?_
 refine dU 492543 ?_
 refine dU 1016831 ?_
 refine dU 2097151 ?_
 refine yR ?_
 refine cv ?_
 exact Jp
 refine DU ?_
 refine dB 511 ga ?_ (x := sM)
 refine dx 19 (fun gb sgb => ?_) (fun gb sgb => ?_)
 refine sN ?_
 refine dB 4095 gb ?_ (x := aU (by decide) mP (by exact tI) (by exact rfl) (by exact aW (by omega) rfl) (by exact rfl))
 refine dB 8191 gb ?_ (x := cd (by decide) ib (by exact nl rfl))
 refine dB 16383 gb ?_ (x := lE [val _] az)
 refine sN ?_
 refine dB 66559 gb ?_ (x := fI)
 refine dB 230399 gb ?_ (x := aU (k := k - 1) (by decide) mP (by exact tI) (by omega) (by exact aW (by omega) rfl) (by exact rfl))
 refine dB 492543 gb ?_ (x := cd (by decide) ib (by exact nl rfl))
 refine dB 1016831 gb ?_ (x := lE [val _] az)
 refine Dz ?_
 refine dA 8388607 ?_ (x := aF ga)
 refine sc ?_ ?_ <;> intro hbb
 exact Jp
 exact Jq
 refine tf ?_
 refine dF 4095 gb ?_
 refine dF 8191 gb ?_
 refine dF 16383 gb ?_
 refine tf ?_
 refine dF 66559 gb ?_
 refine dF 230399 gb ?_
 refine dF 492543 gb ?_
 refine dF 1016831 gb ?_
 refine dF 2097151 gb ?_
 refine DG ?_
 refine eX ?_
 exact Jq
 have hend : k = l.length := by omega
 have hall : dG tU ck rt l = true := pH ha hend
 refine qQ ?_
 refine rA ?_ (x := vM false [sl .v _])
 refine rA ?_ (x := lN mP)
 refine rA ?_ (x := ix)
 refine db ?_
 exact rb (by simp [dK, hall])
def acG {q : aeA} {f : Int} {v : Int}  : aN prog 283 [(true, [val (vI q.Id), val (vI q.aeE), sl .v (q.aeB.map bH), sl .v (q.Out.map am)]), (false, [val (vI f)]), (false, [val (vI v)])] (aJ [(false, [val (.bool (iU q f v))])]) := by
 refine sF func283 fun h0 w0 Fz0 => ?_
 refine sn 0 2 fun hl0_2 => ?_
 refine sn 0 3 fun hl0_3 => ?_
 refine nk ?_
 refine eH ?_
 refine sT [1, 2, 3, 6] [3] ?_
 refine ca ?_
 refine sP [1, 2, 3, 6, 7] [3] ?_
 refine sL [1, 2, 3] [3] (fun k : Nat => k ≤ q.aeB.length ∧ (q.aeB.take k).all (iA f v) = true) (fun k : Nat => [(7, RV.int (k : Int))]) (fun k : Nat => []) (fun k : Nat => q.aeB.length - k) 0 (by exact ⟨by omega, by simp⟩) (by exact aI (by exact rfl) tI) (by exact tI) ?_
 rintro k ⟨hk, ha⟩
 refine de ?_
 refine zq ?_
 refine sc ?_ ?_ <;> intro hba
 have hlt : k < q.aeB.length := by omega
 refine dh ?_
 refine sQ [1, 2, 3, 7] [3] ?_
 refine da cG ?_
 refine DC ?_
 refine De ?_
 refine dA 15 ?_ (x := cd (by decide) oF (by exact nl rfl))
 refine dA 31 ?_ (x := lE [val _] az)
 refine dA 0 ?_ (x := sM)
 refine dA 127 ?_ (x := dQ)
 refine dA 255 ?_ (x := sM)
 refine dx 23 (fun ga sga => ?_) (fun ga sga => ?_)
 refine dB 511 ga ?_ (x := sM)
 refine dB 511 ga ?_ (x := lF lW)
 refine dB 1535 ga ?_ (x := lD [sl .v _] lZ)
 refine dB 511 ga ?_ (x := sM)
 refine dB 7679 ga ?_ (x := aU (by decide) gH (by exact tI) (by exact rfl) (by exact aW (by omega) rfl) (by exact rfl))
 refine dB 15871 ga ?_ (x := cd (by decide) zG (by exact nl rfl))
 refine dB 32255 ga ?_ (x := lE [val _] az)
 refine dB 511 ga ?_ (x := lF lW)
 refine dB 66047 ga ?_ (x := lD [sl .v _] lZ)
 refine dB 511 ga ?_ (x := sM)
 refine dB 459263 ga ?_ (x := aU (by decide) gH (by exact tI) (by exact rfl) (by exact aW (by omega) rfl) (by exact rfl))
 refine dB 983551 ga ?_ (x := cd (by decide) rj (by exact nl rfl))
 refine dB 2032127 ga ?_ (x := lE [val _] az)
 refine dB 4194303 ga ?_ (x := cL [(false, [val _]), (false, [val _]), (false, [val _])] [(false, [val _]), (false, [val _]), (false, [val _])] fX (hs := by exact gl))
 refine dB 8388607 ga ?_ (x := nT)
 refine dA 16777215 ?_ (x := aO ga)
 refine sc ?_ ?_ <;> intro hbb
 have hno : iA f v q.aeB[k] = false := by simp_all [iA]
 refine sS [1, 2, 3, 7] [3] ?_
 exact Jr
 exact Js
 refine dF 511 ga ?_
 refine dF 511 ga ?_
 refine dF 1535 ga ?_
 refine dF 511 ga ?_
 refine dF 7679 ga ?_
 refine dF 15871 ga ?_
 refine dF 32255 ga ?_
 refine dF 511 ga ?_
 refine dF 66047 ga ?_
 refine dF 511 ga ?_
 refine dF 459263 ga ?_
 refine dF 983551 ga ?_
 refine dF 2032127 ga ?_
 refine dF 4194303 ga ?_
 refine dF 8388607 ga ?_
 refine dA 16777215 ?_ (x := aF ga)
 refine eX ?_
 exact Js
 have hall : q.aeB.all (iA f v) = true := jr (by rw [show q.aeB.length = k by omega]; exact ha)
 refine bq ?_
 refine sT [1, 2, 3, 7] [3] ?_
 exact Jt
def acH {p1 p2 : Fl} {l : List aeA} {f : Int} {v : Int}  : aN prog 279 [(false, [sl .v (l.map (ln p1 p2))]), (false, [val (vI f)]), (false, [val (vI v)])] (aJ [(false, [sl ab ((zM l f v).map am)])]) := by
 refine sF func279 fun h0 w0 Fz0 => ?_
 refine sj 0 fun hl0 => ?_
 refine qC ?_
 refine sS [0, 1, 2, 6] [] ?_
 refine np ?_
 refine sS [0, 1, 2, 6, 7] [] ?_
 refine ca ?_
 refine sP [0, 1, 2, 6, 7, 8] [] ?_
 refine sL [0, 1, 2, 6] [] (fun k : Nat => k ≤ l.length ∧ (0 < k → (dK l && (aK f 0 2 && aK v 0 99)) = true)) (fun k : Nat => [(7, RV.slc ab ((fY (l.take k) f v).map am)), (8, RV.int (k : Int))]) (fun k : Nat => []) (fun k : Nat => l.length - k) 0 (by exact ⟨by omega, fun h => absurd h (Nat.lt_irrefl 0)⟩) (by exact aI (by exact rfl) (aI (by exact rfl) tI)) (by exact tI) ?_
 rintro k ⟨hk, ha⟩
 refine oq ?_
 refine yS ?_
 refine rM ?_
 refine cx 14 (fun ga sga => ?_) (fun ga sga => ?_)
 refine rB ga ?_ (x := vM false [sl .v _])
 refine rB ga ?_ (x := cL [(false, [sl _ _])] [(false, [sl .v _])] EX (hs := by exact GN))
 refine jP ?_
 refine cx 18 (fun gb sgb => ?_) (fun gb sgb => ?_)
 refine rB gb ?_ (x := sM)
 refine CS ?_
 refine cx 22 (fun gc sgc => ?_) (fun gc sgc => ?_)
 refine Oo ?_
 refine rA ?_ (x := aO gc)
 refine sc ?_ ?_ <;> intro hba
 have hok : (dK l && (aK f 0 2 && aK v 0 99)) = true := by simp_all
 have hok2 := pP (Bool.and_eq_true_iff.1 hok).1
 have hlt : k < l.length := (by first | omega | (simp_all; done) | (simp_all; omega))
 have hsl := EA (l.take k) f v
 rw [bv] at hsl
 refine bi ?_
 refine sS [0, 1, 2, 6, 7, 8] [] ?_
 refine yA ?_
 refine rA ?_ (x := lE [val _, val _, sl .v _, sl .v _] eQ)
 refine jS ?_
 refine rA ?_ (x := cL [(true, [val _, val _, sl _ _, sl _ _]), (false, [val _]), (false, [val _])] [(true, [val _, val _, sl .v _, sl .v _]), (false, [val _]), (false, [val _])] YY (hs := by exact acG))
 refine sc ?_ ?_ <;> intro hbb
 have hc := hbb
 refine sG [0, 1, 2, 6, 7, 8] [] ?_
 refine rA ?_ (x := tM)
 refine yA ?_
 refine vr ?_
 refine ll ?_
 exact Ju
 have hc := hbb
 refine bb ?_
 exact Ju
 exact xT
 refine oj ?_
 refine eX ?_
 exact xT
 refine fU ?_
 refine aq.cases (s := 22) rfl (fun g7 => nomatch g7) (fun g7 => ?_)
 refine qM ?_
 refine eX ?_
 exact xT
 refine gu ?_
 refine aq.cases (s := 18) rfl (fun g9 => nomatch g9) (fun g9 => ?_)
 refine ou ?_
 refine rM ?_
 refine aq.cases (s := 22) rfl (fun g10 => nomatch g10) (fun g10 => ?_)
 refine ot ?_
 refine eX ?_
 exact xT
def acI {p1 p2 : Fl} {l : List aeA} {f : Int}  : aN prog 246 [(false, [sl .v (l.map (ln p1 p2))]), (false, [val (vI f)])] (aJ [(false, [sl rW ((gK l f).map (pF ab))])]) := by
 refine mq (largs := fun L => [(false, [sl (.lo L) (l.map (ln (.lo L) (.lo L)))]), (false, [val (vI f)])]) (rs := [(false, [sl rW ((gK l f).map (pF ab))])]) func246 rfl (nl rfl) (fun L => by exact (aI (aI rfl (ae.cons (aP (fun _ => nl rfl) (fun _ => (ae.cons av (ae.cons av (ae.cons (aP (fun _ => nl rfl) (fun _ => (ae.cons av (ae.cons av (ae.cons av ae.nil))))) (ae.cons (aP (fun _ => nl rfl) (fun _ => (ae.cons av ae.nil))) ae.nil)))))) ae.nil)) (aI (aI rfl (ae.cons av ae.nil)) tI))) (fun L => by exact lq) ?_
 intro w0 Fz0
 refine sj 0 fun hl0 => ?_
 refine sR ?_
 refine rA ?_ (x := kx (.inr rfl) (by decide) (lG (t := 268) (e := 3)))
 refine sS [0, 1, 4] [] ?_
 refine rA ?_ (x := bP (qs := []) (by decide) nB Ai (by decide) rfl rfl rfl rfl rfl (by exact nl rfl) (by exact tI) rfl)
 refine qI ?_
 refine sS [0, 1, 4, 5] [] ?_
 refine rA ?_ (x := vM false [sl (.lo _) _])
 refine rA ?_ (x := cL [(false, [sl (.lo _) _])] [(false, [sl .v _])] EX (hs := by exact GN))
 refine fz ?_
 refine cx 13 (fun ga sga => ?_) (fun ga sga => ?_)
 refine mE ?_
 exact Jv
 refine rB ga ?_ (x := sM)
 refine yt ?_
 refine sc ?_ ?_ <;> intro hba
 exact Jv
 have hok : (dK l && aK f 0 2) = true := by simp_all
 obtain ⟨hq, hf⟩ := Bool.and_eq_true_iff.1 hok
 have hq2 := pP hq
 refine eG ?_
 refine vX ?_
 refine sL [0, 1, 4] [] (fun k : Nat => k ≤ 100) (fun k : Nat => [(5, RV.slc rW ((du l f k).map (pF ab))), (6, RV.int (k : Int))]) (fun k : Nat => []) (fun k : Nat => 100 - k) 0 (by omega) (by exact aI (by exact rfl) (aI (by exact rfl) tI)) (by exact tI) ?_
 rintro k hk
 refine de ?_
 refine rA ?_ (x := ix)
 refine sc ?_ ?_ <;> intro hbb
 have hlt : k < 100 := by omega
 have hse : zM l f (k : Int) = fY l f (k : Int) := if_pos (by rw [hq, hf]; simp [aK]; omega)
 have hsl := EB l f k
 have hss := EA l f (k : Int)
 refine vO ?_
 refine rA ?_ (x := vM false [sl (.lo _) _])
 refine jS ?_
 refine rA ?_ (x := cL [(false, [sl (.lo _) _]), (false, [val _]), (false, [val _])] [(false, [sl .v _]), (false, [val _]), (false, [val _])] YX (hs := by exact (acH (l := l) (f := f) (v := (k : Int)))))
 refine rA ?_ (x := tA)
 refine sS [0, 1, 4, 5, 6, 7] [] ?_
 refine rA ?_ (x := vM false [sl .v _])
 refine rA ?_ (x := lN nB)
 refine rS ?_
 refine sS [0, 1, 4, 5, 6, 7, 8] [] ?_
 refine rM ?_
 refine rA ?_ (x := dI)
 refine rM ?_
 refine cx 31 (fun gb sgb => ?_) (fun gb sgb => ?_)
 refine rB gb ?_ (x := vM false [sl .v _])
 refine rB gb ?_ (x := sM)
 refine rB gb ?_ (x := fI)
 refine rB gb ?_ (x := aU (k := (du l f k).length - 1) (by decide) nB (by exact tI) (by omega) (by exact aW (by omega) (by rw [df (d := kL) (by omega)])) (by exact rfl))
 refine rB gb ?_ (x := cd (by decide) RM (by exact nl rfl))
 refine rB gb ?_ (x := lE [sl .v _] bF)
 refine rB gb ?_ (x := vM false [sl .v _])
 refine rB gb ?_ (x := cL [(false, [sl _ _]), (false, [sl _ _])] [(false, [sl .v _]), (false, [sl .v _])] rh (hs := by exact rG))
 refine rA ?_ (x := aO gb)
 refine sc ?_ ?_ <;> intro hbc
 have hls : mK (du l f k) (fY l f (k : Int)) = true := WP (by omega) (by rw [← hse]; simpa using hbc)
 have hl1 : (du l f k).length - 1 < (du l f k).length := by omega
 refine sP [0, 1, 4, 5, 6, 7, 8] [] ?_
 refine HI (s := 5) (D := 900) (G := 2900) (E := 268) (e := 3) (L := (Lw w0.heap.size)) (es := ((du l f k)).map (pF ab)) (by exact rfl) (iN hl1) (by exact rfl) (by exact rfl) rfl (by exact rfl) (fun x hx => hx) (by exact lq) (by exact tI) (ar.map fun x => (ar.cons lcl_val (ar.cons lcl_val (ar.cons (lcl_own (ar.map fun x => (ar.cons lcl_val ar.nil))) ar.nil)))) fun uu900 cp900 jk900 hlD900 hcp900 hjk900 => ?_
 rw [aw] at hlD900 hcp900 hjk900
 refine cV (d := 900) (by exact rfl) (iM (k := ((du l f k).length - 1)) hl1) ?_
 have hA900 := jl (f := (pF ab)) (e := 3) (xs := (du l f k)) (k := ((du l f k).length - 1)) (fun _ => rfl) (Nat.le_of_lt hl1)
 refine sO [(0, _), (1, _), (4, _), (5, _), (6, _), (7, _), (8, _), (2900, _)] [(900, (268, _ ++ ([val _, val _, sl _ _] ++ _)))] ?_
 refine bd ?_
 refine rA ?_ (x := vM false [val _])
 refine rM ?_
 refine rA ?_ (x := fI)
 refine rM ?_
 refine rA ?_ (x := iw (k := ((du l f k).length - 1)) (G := 2900) (by decide) nB (by exact tI) (by omega) (by first | (rw [aw]; exact hl1) | exact hl1))
 refine rA ?_ (x := lF RL)
 refine rA ?_ (x := nd (o := 1) (ag := false) (vs := [val _]) (by omega) az (by exact tI) (by exact rfl) (by exact nl rfl))
 refine cV (d := 900) (by exact rfl) (ng (⟨((du l f k).getD ((du l f k).length - 1) kL).From, (k : Int), ((du l f k).getD ((du l f k).length - 1) kL).Set⟩) hl1 (by rw [df (d := kL) hl1]; exact rfl)) ?_
 refine HJ (s := 5) (D := 900) (G := 2900) (e := 3) (es := (((du l f k)).set ((du l f k).length - 1) (⟨((du l f k).getD ((du l f k).length - 1) kL).From, (k : Int), ((du l f k).getD ((du l f k).length - 1) kL).Set⟩)).map (pF ab)) (by exact rfl) (by exact rfl) (by exact rfl) rfl (by decide) (by rw [aw, List.length_set, aw]) (by intro c hc; obtain ⟨y, _, rfl⟩ := List.mem_map.1 hc; exact rfl) (by rw [aw]; exact hjk900) ?_
 refine sG [0, 1, 4, 5, 6, 7, 8] [] ?_
 exact Jw
 exact Jx
 refine pz ?_
 refine eX ?_
 exact Jx
 have hend : k = 100 := by omega
 refine vK ?_
 refine jQ ?_
 exact (aI (by refine bG ?_; unfold gK; rw [if_pos hok, hend]) tI)
def acJ {p1 : Fl} {l : List eI} {v : Int}  (hs : ∀ s ∈ l, s.Set.length ≤ 1048576) : aN prog 249 [(false, [sl .v (l.map (pF p1))]), (false, [val (vI v)])] (aJ [(false, [sl ab ((gL l v).map am)])]) := by
 refine sF func249 fun h0 w0 Fz0 => ?_
 refine sj 0 fun hl0 => ?_
 refine qC ?_
 refine be ?_
 refine sS [0, 1, 4] [] ?_
 refine zj ?_
 refine sL [0, 1] [] (fun k : Nat => k ≤ l.length ∧ (l.take k).any (ig v) = false) (fun k : Nat => [(5, RV.int (k : Int))]) (fun k : Nat => []) (fun k : Nat => l.length - k) 0 (by exact ⟨by omega, by simp⟩) (by exact aI (by exact rfl) tI) (by exact tI) ?_
 rintro k ⟨hk, ha⟩
 refine oq ?_
 refine rA ?_ (x := lN nB)
 refine rA ?_ (x := dq)
 refine sc ?_ ?_ <;> intro hba
 have hlt : k < l.length := by omega
 refine th ?_
 refine qE ?_
 refine eY ?_
 refine dA 6 ?_ (x := aU (by decide) nB (by exact tI) (by exact rfl) (by exact aW (by omega) rfl) (by exact rfl))
 refine dA 14 ?_ (x := cd (by decide) ZG (by exact nl rfl))
 refine dA 30 ?_ (x := lE [val _] az)
 refine eY ?_
 refine dA 192 ?_ (x := aU (by decide) nB (by exact tI) (by exact rfl) (by exact aW (by omega) rfl) (by exact rfl))
 refine dA 448 ?_ (x := cd (by decide) RL (by exact nl rfl))
 refine dA 960 ?_ (x := lE [val _] az)
 refine dA 2047 ?_ (x := cL [(false, [val _]), (false, [val _]), (false, [val _])] [(false, [val _]), (false, [val _]), (false, [val _])] fX (hs := by exact gl))
 refine sc ?_ ?_ <;> intro hbb
 have hy : ig v l[k] = true := by simpa [ig] using hbb
 have hst := hs l[k] (List.getElem_mem hlt)
 refine sS [0, 1, 5] [] ?_
 refine rA ?_ (x := bP (qs := []) (by decide) bC eg (by decide) rfl rfl rfl rfl rfl (by exact nl rfl) (by exact tI) rfl)
 refine jp ?_
 refine rA ?_ (x := aU (by decide) nB (by exact tI) (by exact rfl) (by exact aW (by omega) rfl) (by exact rfl))
 refine rA ?_ (x := cd (by decide) RM (by exact nl rfl))
 refine Cv ?_
 refine rA ?_ (x := tA)
 refine cT ?_
 exact (aI (by refine bG ?_; rw [WT hlt ha hy]; exact rfl) tI)
 have hno : ig v l[k] = false := by simpa [ig] using hbb
 refine bb ?_
 refine sG [0, 1, 5] [] ?_
 exact Jz
 have hend : k = l.length := by omega
 rw [hend, cj] at ha
 refine vW ?_
 refine uY ?_
 refine cT ?_
 exact (aI (by refine bG ?_; rw [WU ha]; exact rfl) tI)
def AQ {x : aeA}  (hb : eZ x ≤ 68719476736) : aN prog 156 [(true, [val (vI x.Id), val (vI x.aeE), sl .v (x.aeB.map bH), sl .v (x.Out.map am)])] (aJ [(true, [val (vI x.Id), val (vI x.aeE), sl aD (x.aeB.map bH), sl ab (x.Out.map am)])]) := by
 refine sF func156 fun h0 w0 Fz0 => ?_
 refine sn 0 2 fun hl0_2 => ?_
 refine sn 0 3 fun hl0_3 => ?_
 have hbu := hb
 simp only [eZ, dE, bf, tO] at hbu
 refine nk ?_
 refine rX ?_ (x := (cr (by decide) kJ oK))
 refine qT ?_
 refine dA 0 ?_ (x := lF ib)
 refine dA 1 ?_ (x := lD [val _] az)
 refine dA 0 ?_ (x := lF rm)
 refine dA 4 ?_ (x := lD [val _] az)
 refine dA 0 ?_ (x := bP (qs := []) (by decide) gH pO (by decide) rfl rfl rfl rfl rfl (by exact nl rfl) (by exact tI) rfl)
 refine dA 0 ?_ (x := lF lW)
 refine dA 32 ?_ (x := lD [sl .v _] lZ)
 refine dA 112 ?_ (x := it (by decide) gH pO rfl rfl (by decide) (by first | (intro cs hcs; obtain ⟨x, _, rfl⟩ := List.mem_map.1 hcs; exact rfl) | simp) (by first | (intro cs hcs; obtain ⟨x, _, rfl⟩ := List.mem_map.1 hcs; exact (aj.cons (bor_val _) (aj.cons (bor_val _) (aj.cons (bor_val _) aj.nil)))) | simp) (by simp only [aw, aM, List.length_cons, List.length_nil]; omega) (by simp only [aw, aM, List.length_cons, List.length_nil]; omega))
 refine dA 0 ?_ (x := bP (qs := []) (by decide) bC eg (by decide) rfl rfl rfl rfl rfl (by exact nl rfl) (by exact tI) rfl)
 refine dA 0 ?_ (x := lF pJ)
 refine MK ?_
 refine dA 4095 ?_ (x := dp (qs := [(false, [val _]), (false, [val _]), (false, [sl _ _]), (false, [sl _ _])]) (cs := [val _, val _, sl _ _, sl _ _]) (by decide) kJ oK acF (by exact rfl) (by exact (aI (by exact tI) (aI (by exact tI) (aI (by exact tI) (aI (by exact tI) tI))))) rfl (by exact rfl))
 refine dA 8191 ?_ (x := bh (ag := true) (vs := [val _, val _, sl _ _, sl _ _]) eQ (by exact tI) (by exact rfl) (by exact nl rfl))
 exact JA
def acK {p1 p2 : Fl} {x : List aeA}  (hb : zz x ≤ 68719476736) : aN prog 245 [(false, [sl .v (x.map (ln p1 p2))])] (aJ [(false, [sl qi (x.map (ln aD ab))])]) := by
 refine sF func245 fun h0 w0 Fz0 => ?_
 refine sj 0 fun hl0 => ?_
 have hbu := hb
 simp only [zz] at hbu
 refine sR ?_
 refine rA ?_ (x := kx (.inr rfl) (by decide) (lG (t := 52) (e := 4)))
 refine sS [0, 2] [] ?_
 refine Pa ?_
 refine tg ?_
 refine sL [0, 2] [] (fun k : Nat => k ≤ x.length) (fun k : Nat => [(3, RV.slc qi ((x.take k).map (ln aD ab))), (4, RV.int (k : Int))]) (fun k : Nat => []) (fun k : Nat => x.length - k) 0 (by omega) (by exact aI (by first | exact rfl | simp) (aI (by exact rfl) tI)) (by exact tI) ?_
 rintro k hk
 refine oq ?_
 refine yS ?_
 refine sc ?_ ?_ <;> intro hba
 have hlt : k < x.length := by omega
 have hwm := di (f := eZ) hlt
 have htl : (x.take k).length = k := by rw [bv]; omega
 refine bi ?_
 refine sS [0, 2, 3, 4] [] ?_
 refine yA ?_
 refine rA ?_ (x := lE [val _, val _, sl .v _, sl .v _] eQ)
 refine rA ?_ (x := cL [(true, [val _, val _, sl _ _, sl _ _])] [(true, [val _, val _, sl .v _, sl .v _])] Ac (hs := by exact AQ (by omega)))
 refine rX ?_ (x := (cr (by decide) kJ oK))
 refine rA ?_ (x := bh (ag := true) (vs := [val _, val _, sl _ _, sl _ _]) eQ (by exact tI) (by exact rfl) (by exact nl rfl))
 refine sH [0, 2, 3, 4, 5] [5] ?_
 refine rA ?_ (x := tM)
 refine rA ?_ (x := cP (ms := [val _, val _, sl _ _, sl _ _]) (qs := [val _, val _, sl .v _, sl .v _]) (by decide) eQ (fun h => nomatch h) (by exact nl rfl) (by exact rfl) (by exact (ak (ak (aB (aB ao.nil))))) (by exact lq))
 refine rA ?_ (x := bP (qs := [(true, [val _, val _, sl _ _, sl _ _])]) (by decide) mP kJ (by decide) rfl rfl rfl rfl rfl (by exact nl rfl) (by exact (aI (by exact tI) tI)) rfl)
 refine rA ?_ (x := en (by decide) mP kJ rfl rfl (by decide) rfl (by simp only [aw, aM, List.length_cons, List.length_nil]; omega) (by simp only [aw, aM, List.length_cons, List.length_nil]; omega))
 refine rA ?_ (x := tA)
 refine sH [0, 2, 3, 4, 5] [5] ?_
 exact BN
 exact BP
end Go.Proofs.YtmekkgdboplbjaaGreat
