/- What functions of the program compute. No condition. -/
import Derived.Test.YtmekkgdboplbjaaGreatCD1
set_option linter.all false
namespace Go.Proofs.YtmekkgdboplbjaaGreat
open Go Go.RowKit M PV Tryz
set_option maxRecDepth 10000
attribute [local irreducible] PV.Lcl PV.LclR RV.Lcl
set_option maxHeartbeats 8000000
def adK : dY prog 63 = some [(0, 4), (4, 1), (5, 1), (6, 1)] := by kernel_rfl
def adL {e : aA}  (hoe : aX e = true) (hst : e.Steps < 100000) (hld : (e.aeL.length : Int) < 1000) (hda : (e.Done.length : Int) + (e.aez.length : Int) ≤ 1000) (hb : bp e ≤ 68719000000) : iO prog 159 32 [sl bz (e.Store.aey.map (aG aV ab)), val (vI e.Store.Now), val (vI e.aeD), sl ab (e.Order.map am), sl ce (e.aez.map (aT aD ab ab aE ab)), sl bT (e.Done.map (bn aD ab aE ab)), sl bY (e.aeL.map (bl ab ab ab)), val (vI e.Steps)] [sl bz ((dk (gN e)).Store.aey.map (aG aV ab)), val (vI (dk (gN e)).Store.Now), val (vI (dk (gN e)).aeD), sl ab ((dk (gN e)).Order.map am), sl ce ((dk (gN e)).aez.map (aT aD ab ab aE ab)), sl bT ((dk (gN e)).Done.map (bn aD ab aE ab)), sl bY ((dk (gN e)).aeL.map (bl ab ab ab)), val (vI (dk (gN e)).Steps)] [] (aJ []) := by
 refine kC (rs := []) func159 rfl (nl rfl) (nl rfl) ?_
 intro g_ h0 w0 Fz0
 have hef := gW hoe
 have hcl : e.aeD.toNat < e.Store.aey.length := hef.2.2.2.1
 have hpl := wD (e := e)
 have hswt := FI hoe
 obtain ⟨hs8, hs1, _, _, _, _⟩ := mN hef.1
 have hbu := hb
 simp only [bp, fB, fC, fV] at hbu
 refine sR ?_
 refine lL ?_
 refine rA ?_ (x := lD [sl .v _, val _, val _, sl .v _, sl .v _, sl .v _, sl .v _, val _] bU)
 refine rA ?_ (x := cL [(true, [sl _ _, val _, val _, sl _ _, sl _ _, sl _ _, sl _ _, val _])] [(true, [sl .v _, val _, val _, sl .v _, sl .v _, sl .v _, sl .v _, val _])] Yo (hs := by exact (adh (by omega))))
 refine qI ?_
 refine sT [0, 2, 5000] [0] ?_
 refine gS ?_
 refine rA ?_ (x := dI)
 refine sc ?_ ?_ <;> intro hba
 have hled : gz e (parts e).length = e.aeL ++ [ej e (parts e).length] := by unfold gz; rw [if_neg (by omega)]
 refine sP [0, 2, 5000] [0] ?_
 refine qj ?_
 refine wA ?_ (x := cM Cp.ptr)
 refine wA ?_ (x := tM)
 refine wO [(0, _), (14, _), (15, _), (5000, _)] [(0, _)] ?_
 refine uM (bx := 0) (L := AU) (qs := [(false, [sl _ _])]) (as_ := [(false, [sl _ _])]) (by decide) YD rfl (by exact rfl) (by exact rfl) (by exact ⟨rfl, ⟨⟩⟩) (by exact (aI (by exact tI) tI)) (by decide) (by exact (aI (aI rfl (iv.cons OTo.refl iv.nil)) tI)) (by exact (adJ (e := e) rfl hoe (by omega))) (fun x hx => hx.elim) (by exact lq) (by exact (aI (.inl rfl) tI)) ?_
 refine pi ?_
 refine sT [0, 5000] [0] ?_
 refine lL ?_
 refine vQ ?_
 refine rS ?_
 refine sS [0, 3, 5000] [0] ?_
 refine vi ?_
 refine be ?_
 refine sS [0, 3, 4, 5000] [0] ?_
 refine ca ?_
 refine sP [0, 3, 4, 5, 5000] [0] ?_
 refine cV (d := 0) (by exact rfl) (show _ = [sl bz (e.Store.aey.map (aG aV ab)), val (vI e.Store.Now), val (vI e.aeD), sl ab (e.Order.map am), sl ce ((bW e (parts e).length).map (aT aD ab ab aE ab)), sl bT (e.Done.map (bn aD ab aE ab)), sl bY ((gz e (parts e).length).map (bl ab ab ab)), val (vI e.Steps)] from by first | (rw [hled]; done) | (rw [hled]; exact rfl) | (rw [hled, hsv]; done) | (rw [hled, hsv]; exact rfl)) ?_
 refine sP [0, 3, 4, 5, 5000] [0] ?_
 refine sk (d := 0) (t := 108) (e := 10) (G := 6200) (A := [sl _ _, val _, val _, sl _ _]) (B := [sl _ _, sl _ _, val _]) (f := (aT aD ab ab aE ab)) (g := (fun z : aez => [val (vI z.aeA.Id), val (vI z.aeA.aeE), sl .v (z.aeA.aeB.map bH), sl .v (z.aeA.Out.map am), val (vI z.Time), sl .v (z.aeI.map am), val (vI z.Age), val (vI z.Sent), val (vI z.Cap), sl .v (z.Rows.map (bI ab))])) (fN := ff) (xs := (bW e (parts e).length)) (by exact rfl) (by exact rfl) (fun _ _ => rfl) (fun _ => rfl) (fun _ => (ak (ak (aB (aB (ak (aB (ak (ak (ak (aB ao.nil))))))))))) (fun _ => (by exact lq)) fun za hza => ?_
 have hzal : za.length = e.aez.length := by rw [← aw (f := Prod.fst), hza, kU]
 refine sQ [0, 3, 4, 5, 5000, 6200] [0] ?_
 refine sL [0, 3, 5000] [] (fun m : Nat => m ≤ e.aez.length) (fun m : Nat => [(4, RV.slc ce ((ko e (parts e).length m).map (aT aD ab ab aE ab))), (5, RV.int (m : Int)), (6200, RV.gh (bm 10 (za.drop m)) (bK (aT aD ab ab aE ab) (za.drop m)))]) (fun m : Nat => [(0, (32, [sl bz (e.Store.aey.map (aG aV ab)), val (vI e.Store.Now), val (vI e.aeD), sl ab (e.Order.map am), sl .v (za.map ff), sl bT ((e.Done ++ gm e (parts e).length m).map (bn aD ab aE ab)), sl bY ((gz e (parts e).length).map (bl ab ab ab)), val (vI e.Steps)]))]) (fun m : Nat => e.aez.length - m) 0 (by omega) (by exact aI (by exact rfl) (aI (by exact rfl) (aI (by exact rfl) tI))) (by exact aI (by show _ = some (32, [sl bz (e.Store.aey.map (aG aV ab)), val (vI e.Store.Now), val (vI e.aeD), sl ab (e.Order.map am), sl .v (za.map ff), sl bT ((e.Done ++ gm e (parts e).length 0).map (bn aD ab aE ab)), sl bY ((gz e (parts e).length).map (bl ab ab ab)), val (vI e.Steps)]); rw [show gm e (parts e).length 0 = [] from rfl, dP]; exact rfl) tI) ?_
 rintro m hm
 have hrl2 := Aq (e := e) (k := (parts e).length) (m := m)
 have hdl2 := Ar (e := e) (k := (parts e).length) (m := m)
 refine de ?_
 refine lL ?_
 refine pA ?_
 refine sc ?_ ?_ <;> intro hbb
 have hltm : m < e.aez.length := by omega
 have hltz : m < za.length := by omega
 have hm2 : m < (bW e (parts e).length).length := by rw [kU]; exact hltm
 have hm1 : m < (cR e (parts e).length).length := by rw [ud]; exact hltm
 have hz3 : za[m].1 = (bW e (parts e).length)[m] := by simp [← hza]
 have hab := Au hoe hltm hm2
 rw [← hz3] at hab
 refine bi ?_
 refine sT [0, 3, 4, 5, 5000, 6200] [0] ?_
 refine lL ?_
 refine mx ?_
 refine rM ?_
 refine yl ?_
 refine yn ?_
 refine sO [(0, _), (3, _), (4, _), (5, _), (6, _), (5000, _), (6200, _)] [(0, _), (6, (108, [nv _ (val _), nv _ (val _), nv _ (sl _ _), nv _ (sl _ _), nv _ (val _), nv _ (sl _ _), nv _ (val _), nv _ (val _), nv _ (val _), nv _ (sl _ _)]))] ?_
 refine MY ?_
 refine yq ?_
 refine rA ?_ (x := lF ju)
 refine om ?_
 refine rA ?_ (x := lF ju)
 refine my ?_
 refine be ?_
 refine yq ?_
 refine rA ?_ (x := lF ju)
 refine yH ?_
 refine rA ?_ (x := dQ)
 refine sc ?_ ?_ <;> intro hbc
 have hga : (cR e (parts e).length)[m] = (⟨za[m].1.aeA, za[m].1.Time, za[m].1.aeI, za[m].1.Age + 1, 0, za[m].1.Cap, za[m].1.Rows⟩ : aez) := by rw [ue hm1 hm2, ← hz3]; exact FC hbc
 refine sG [0, 3, 4, 5, 6, 5000, 6200] [0, 6] ?_
 refine Dh ?_
 refine be ?_
 refine yq ?_
 exact Lv
 have hga : (cR e (parts e).length)[m] = (⟨za[m].1.aeA, za[m].1.Time, za[m].1.aeI, za[m].1.Age + 1, za[m].1.Sent, za[m].1.Cap, za[m].1.Rows⟩ : aez) := by rw [ue hm1 hm2, ← hz3]; exact FD hbc
 refine bb ?_
 refine sS [0, 3, 4, 5, 6, 5000, 6200] [0, 6] ?_
 exact Lv
 have hend2 : m = e.aez.length := by omega
 subst hend2
 refine bq ?_
 refine sT [0, 3, 4, 5, 5000, 6200] [0] ?_
 refine rA ?_ (x := cM Cp.ptr)
 refine rA ?_ (x := tM)
 refine rA ?_ (x := iP (by decide))
 refine sD ?_
 refine sT [0, 3, 5, 5000, 6200] [0] ?_
 refine vV ?_
 refine sY ?_
 refine cF ?_
 refine PD ?_
 refine Pn ?_
 refine sT [0, 3, 5, 5000, 6200] [0] ?_
 refine vV ?_
 refine rA ?_ (x := lF lv)
 refine DX ?_
 refine Po ?_
 refine sQ [0, 3, 5, 5000] [0] ?_
 refine qj ?_
 refine wA ?_ (x := cM Cp.ptr)
 refine wO [(0, _), (3, _), (5, _), (98, _), (5000, _)] [(0, _)] ?_
 exact Lx
 have hled : gz e (parts e).length = e.aeL := by unfold gz; rw [if_pos (by omega)]
 have hsv : (bW e (parts e).length) = e.aez := by rw [show (parts e).length = 0 by omega]; exact Fu
 refine bb ?_
 refine sS [0, 2, 5000] [0] ?_
 refine lL ?_
 refine vQ ?_
 refine rS ?_
 refine sS [0, 2, 3, 5000] [0] ?_
 refine vi ?_
 refine be ?_
 refine sS [0, 2, 3, 4, 5000] [0] ?_
 refine ca ?_
 refine sP [0, 2, 3, 4, 5, 5000] [0] ?_
 refine cV (d := 0) (by exact rfl) (show _ = [sl bz (e.Store.aey.map (aG aV ab)), val (vI e.Store.Now), val (vI e.aeD), sl ab (e.Order.map am), sl ce ((bW e (parts e).length).map (aT aD ab ab aE ab)), sl bT (e.Done.map (bn aD ab aE ab)), sl bY ((gz e (parts e).length).map (bl ab ab ab)), val (vI e.Steps)] from by first | (rw [hled]; done) | (rw [hled]; exact rfl) | (rw [hled, hsv]; done) | (rw [hled, hsv]; exact rfl)) ?_
 refine sP [0, 2, 3, 4, 5, 5000] [0] ?_
 refine sk (d := 0) (t := 108) (e := 10) (G := 6200) (A := [sl _ _, val _, val _, sl _ _]) (B := [sl _ _, sl _ _, val _]) (f := (aT aD ab ab aE ab)) (g := (fun z : aez => [val (vI z.aeA.Id), val (vI z.aeA.aeE), sl .v (z.aeA.aeB.map bH), sl .v (z.aeA.Out.map am), val (vI z.Time), sl .v (z.aeI.map am), val (vI z.Age), val (vI z.Sent), val (vI z.Cap), sl .v (z.Rows.map (bI ab))])) (fN := ff) (xs := (bW e (parts e).length)) (by exact rfl) (by exact rfl) (fun _ _ => rfl) (fun _ => rfl) (fun _ => (ak (ak (aB (aB (ak (aB (ak (ak (ak (aB ao.nil))))))))))) (fun _ => (by exact lq)) fun za hza => ?_
 have hzal : za.length = e.aez.length := by rw [← aw (f := Prod.fst), hza, kU]
 refine sQ [0, 2, 3, 4, 5, 5000, 6200] [0] ?_
 refine sL [0, 2, 3, 5000] [] (fun m : Nat => m ≤ e.aez.length) (fun m : Nat => [(4, RV.slc ce ((ko e (parts e).length m).map (aT aD ab ab aE ab))), (5, RV.int (m : Int)), (6200, RV.gh (bm 10 (za.drop m)) (bK (aT aD ab ab aE ab) (za.drop m)))]) (fun m : Nat => [(0, (32, [sl bz (e.Store.aey.map (aG aV ab)), val (vI e.Store.Now), val (vI e.aeD), sl ab (e.Order.map am), sl .v (za.map ff), sl bT ((e.Done ++ gm e (parts e).length m).map (bn aD ab aE ab)), sl bY ((gz e (parts e).length).map (bl ab ab ab)), val (vI e.Steps)]))]) (fun m : Nat => e.aez.length - m) 0 (by omega) (by exact aI (by exact rfl) (aI (by exact rfl) (aI (by exact rfl) tI))) (by exact aI (by show _ = some (32, [sl bz (e.Store.aey.map (aG aV ab)), val (vI e.Store.Now), val (vI e.aeD), sl ab (e.Order.map am), sl .v (za.map ff), sl bT ((e.Done ++ gm e (parts e).length 0).map (bn aD ab aE ab)), sl bY ((gz e (parts e).length).map (bl ab ab ab)), val (vI e.Steps)]); rw [show gm e (parts e).length 0 = [] from rfl, dP]; exact rfl) tI) ?_
 rintro m hm
 have hrl2 := Aq (e := e) (k := (parts e).length) (m := m)
 have hdl2 := Ar (e := e) (k := (parts e).length) (m := m)
 refine de ?_
 refine lL ?_
 refine pA ?_
 refine sc ?_ ?_ <;> intro hbb
 have hltm : m < e.aez.length := by omega
 have hltz : m < za.length := by omega
 have hm2 : m < (bW e (parts e).length).length := by rw [kU]; exact hltm
 have hm1 : m < (cR e (parts e).length).length := by rw [ud]; exact hltm
 have hz3 : za[m].1 = (bW e (parts e).length)[m] := by simp [← hza]
 have hab := Au hoe hltm hm2
 rw [← hz3] at hab
 refine bi ?_
 refine sT [0, 2, 3, 4, 5, 5000, 6200] [0] ?_
 refine lL ?_
 refine mx ?_
 refine rM ?_
 refine yl ?_
 refine yn ?_
 refine sO [(0, _), (2, _), (3, _), (4, _), (5, _), (6, _), (5000, _), (6200, _)] [(0, _), (6, (108, [nv _ (val _), nv _ (val _), nv _ (sl _ _), nv _ (sl _ _), nv _ (val _), nv _ (sl _ _), nv _ (val _), nv _ (val _), nv _ (val _), nv _ (sl _ _)]))] ?_
 refine MY ?_
 refine yp ?_
 refine rA ?_ (x := lF ju)
 refine om ?_
 refine rA ?_ (x := lF ju)
 refine my ?_
 refine be ?_
 refine yp ?_
 refine rA ?_ (x := lF ju)
 refine yH ?_
 refine rA ?_ (x := dQ)
 refine sc ?_ ?_ <;> intro hbc
 have hga : (cR e (parts e).length)[m] = (⟨za[m].1.aeA, za[m].1.Time, za[m].1.aeI, za[m].1.Age + 1, 0, za[m].1.Cap, za[m].1.Rows⟩ : aez) := by rw [ue hm1 hm2, ← hz3]; exact FC hbc
 refine sG [0, 2, 3, 4, 5, 6, 5000, 6200] [0, 6] ?_
 refine Dh ?_
 refine be ?_
 refine yp ?_
 exact Ly
 have hga : (cR e (parts e).length)[m] = (⟨za[m].1.aeA, za[m].1.Time, za[m].1.aeI, za[m].1.Age + 1, za[m].1.Sent, za[m].1.Cap, za[m].1.Rows⟩ : aez) := by rw [ue hm1 hm2, ← hz3]; exact FD hbc
 refine bb ?_
 refine sS [0, 2, 3, 4, 5, 6, 5000, 6200] [0, 6] ?_
 exact Ly
 have hend2 : m = e.aez.length := by omega
 subst hend2
 refine bq ?_
 refine sT [0, 2, 3, 4, 5, 5000, 6200] [0] ?_
 refine rA ?_ (x := cM Cp.ptr)
 refine rA ?_ (x := tM)
 refine rA ?_ (x := iP (by decide))
 refine sD ?_
 refine sT [0, 2, 3, 5, 5000, 6200] [0] ?_
 refine vV ?_
 refine sY ?_
 refine cF ?_
 refine PD ?_
 refine Pn ?_
 refine sT [0, 2, 3, 5, 5000, 6200] [0] ?_
 refine vV ?_
 refine rA ?_ (x := lF lv)
 refine DX ?_
 refine Po ?_
 refine sQ [0, 2, 3, 5, 5000] [0] ?_
 refine qj ?_
 refine wA ?_ (x := cM Cp.ptr)
 refine wO [(0, _), (2, _), (3, _), (5, _), (98, _), (5000, _)] [(0, _)] ?_
 exact Lx
def adM {p1 p2 p5 p6 p7 p8 p9 p11 p12 p13 p14 p16 p17 p18 : Fl} {e : aA}  (hb : bp e ≤ 68719000000) : aN prog 61 [(true, [sl .v (e.Store.aey.map (aG p1 p2)), val (vI e.Store.Now), val (vI e.aeD), sl .v (e.Order.map am), sl .v (e.aez.map (aT p5 p6 p7 p8 p9)), sl .v (e.Done.map (bn p11 p12 p13 p14)), sl .v (e.aeL.map (bl p16 p17 p18)), val (vI e.Steps)])] (aJ [(true, [sl bz ((cz e).Store.aey.map (aG aV ab)), val (vI (cz e).Store.Now), val (vI (cz e).aeD), sl ab ((cz e).Order.map am), sl ce ((cz e).aez.map (aT aD ab ab aE ab)), sl bT ((cz e).Done.map (bn aD ab aE ab)), sl bY ((cz e).aeL.map (bl ab ab ab)), val (vI (cz e).Steps)]), (false, [val (.bool (im e))])]) := by
 refine mq (largs := fun L => [(true, [sl (.lo L) (e.Store.aey.map (aG (.lo L) (.lo L))), val (vI e.Store.Now), val (vI e.aeD), sl (.lo L) (e.Order.map am), sl (.lo L) (e.aez.map (aT (.lo L) (.lo L) (.lo L) (.lo L) (.lo L))), sl (.lo L) (e.Done.map (bn (.lo L) (.lo L) (.lo L) (.lo L))), sl (.lo L) (e.aeL.map (bl (.lo L) (.lo L) (.lo L))), val (vI e.Steps)])]) (rs := [(true, [sl bz ((cz e).Store.aey.map (aG aV ab)), val (vI (cz e).Store.Now), val (vI (cz e).aeD), sl ab ((cz e).Order.map am), sl ce ((cz e).aez.map (aT aD ab ab aE ab)), sl bT ((cz e).Done.map (bn aD ab aE ab)), sl bY ((cz e).aeL.map (bl ab ab ab)), val (vI (cz e).Steps)]), (false, [val (.bool (im e))])]) func61 rfl (nl rfl) (fun L => by exact (aI (aI rfl (ae.cons (aP (fun _ => nl rfl) (fun _ => (ae.cons (aP (fun _ => nl rfl) (fun _ => (ae.cons av (ae.cons (aP (fun _ => nl rfl) (fun _ => (ae.cons av ae.nil))) (ae.cons av (ae.cons av ae.nil)))))) ae.nil))) (ae.cons av (ae.cons av (ae.cons (aP (fun _ => nl rfl) (fun _ => (ae.cons av ae.nil))) (ae.cons (aP (fun _ => nl rfl) (fun _ => (ae.cons av (ae.cons av (ae.cons (aP (fun _ => nl rfl) (fun _ => (ae.cons av (ae.cons av (ae.cons av ae.nil))))) (ae.cons (aP (fun _ => nl rfl) (fun _ => (ae.cons av ae.nil))) (ae.cons av (ae.cons (aP (fun _ => nl rfl) (fun _ => (ae.cons av ae.nil))) (ae.cons av (ae.cons av (ae.cons av (ae.cons (aP (fun _ => nl rfl) (fun _ => (ae.cons av (ae.cons (aP (fun _ => nl rfl) (fun _ => (ae.cons av ae.nil))) ae.nil)))) ae.nil)))))))))))) (ae.cons (aP (fun _ => nl rfl) (fun _ => (ae.cons av (ae.cons av (ae.cons (aP (fun _ => nl rfl) (fun _ => (ae.cons av (ae.cons av (ae.cons av ae.nil))))) (ae.cons (aP (fun _ => nl rfl) (fun _ => (ae.cons av ae.nil))) (ae.cons av (ae.cons av (ae.cons (aP (fun _ => nl rfl) (fun _ => (ae.cons av (ae.cons (aP (fun _ => nl rfl) (fun _ => (ae.cons av ae.nil))) ae.nil)))) ae.nil))))))))) (ae.cons (aP (fun _ => nl rfl) (fun _ => (ae.cons av (ae.cons av (ae.cons (aP (fun _ => nl rfl) (fun _ => (ae.cons av ae.nil))) (ae.cons (aP (fun _ => nl rfl) (fun _ => (ae.cons av ae.nil))) (ae.cons (aP (fun _ => nl rfl) (fun _ => (ae.cons av ae.nil))) ae.nil))))))) (ae.cons av ae.nil))))))))) tI)) (fun L => by exact lq) ?_
 intro w0 Fz0
 refine sn 0 0 fun hl0_0 => ?_
 refine sn 0 3 fun hl0_3 => ?_
 refine sn 0 4 fun hl0_4 => ?_
 refine sn 0 5 fun hl0_5 => ?_
 refine sn 0 6 fun hl0_6 => ?_
 have hbu := hb
 simp only [bp, fB, fC, fV] at hbu
 refine va ?_
 refine NJ ?_
 refine CI ?_
 refine ob ?_
 refine Pc ?_
 refine og ?_
 refine Nr ?_
 refine cx 10 (fun ga sga => ?_) (fun ga sga => ?_)
 refine jq ?_
 refine aq.cases (s := 15) rfl (fun g2 => ?_) (fun g2 => nomatch g2)
 refine nq ?_
 refine aq.cases (s := 21) rfl (fun g3 => ?_) (fun g3 => nomatch g3)
 exact KA
 refine rB ga ?_ (x := lF lv)
 refine rB ga ?_ (x := lD [val _] az)
 refine rB ga ?_ (x := iy)
 refine mB ?_
 refine cx 15 (fun gb sgb => ?_) (fun gb sgb => ?_)
 refine mC ?_
 refine aq.cases (s := 21) rfl (fun g6 => ?_) (fun g6 => nomatch g6)
 exact KB
 refine rB gb ?_ (x := lF iV)
 refine rB gb ?_ (x := lD [sl (.lo _) _] iW)
 refine rB gb ?_ (x := lN fL)
 refine rB gb ?_ (x := iy)
 refine pn ?_
 refine cx 21 (fun gc sgc => ?_) (fun gc sgc => ?_)
 exact KC
 refine rB gc ?_ (x := lF jY)
 refine rB gc ?_ (x := lD [sl (.lo _) _] kd)
 refine rB gc ?_ (x := lN jw)
 refine rB gc ?_ (x := lF ee)
 refine rB gc ?_ (x := lD [sl (.lo _) _] dR)
 refine rB gc ?_ (x := lN cg)
 refine rB gc ?_ (x := jm)
 refine rB gc ?_ (x := dI)
 refine rA ?_ (x := aF gc)
 refine sc ?_ ?_ <;> intro hba
 exact uU
 have hok : im e = true := by
  have ho_ : aX e = true := by simp_all
  have hef_ := gW ho_
  unfold im
  rw [ho_]
  simp only [Bool.true_and, aS, decide_eq_true_eq]
  exact ⟨by omega, by omega, by omega⟩
 obtain ⟨hoe, hst, hld, hda⟩ := wH hok
 refine eG ?_
 refine sP [1, 2, 3, 4] [1, 2, 4] ?_
 refine qj ?_
 refine wO [(1, _), (2, _), (3, _), (4, _)] [(1, _), (2, _), (4, _)] ?_
 refine uM (bx := 4) (L := (Lw w0.heap.size)) (qs := []) (as_ := []) (by decide) Yj rfl (by exact rfl) (by exact rfl) (by exact tI) (by exact tI) (by decide) (by exact tI) (by exact (adL (by assumption) (by omega) (by omega) (by omega) (by omega))) (fun x hx => hx) (by exact lq) (by exact lq) ?_
 refine pi ?_
 refine be ?_
 refine sO [(1, _), (2, _), (3, _), (4, _)] [(1, _), (2, _), (4, (32, [sl _ _, val _, val _, sl _ _, sl _ _, sl _ _, sl _ _, val _]))] ?_
 refine tB ?_
 refine rK ?_
 exact KI
end Go.Proofs.YtmekkgdboplbjaaGreat
