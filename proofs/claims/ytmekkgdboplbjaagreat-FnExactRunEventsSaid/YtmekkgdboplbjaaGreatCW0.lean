/- What functions of the program compute. No condition. -/
import Derived.Test.YtmekkgdboplbjaaGreatCU0
import Derived.Test.YtmekkgdboplbjaaGreatCV0
set_option linter.all false
namespace Go.Proofs.YtmekkgdboplbjaaGreat
open Go Go.RowKit M PV Tryz
set_option maxRecDepth 10000
attribute [local irreducible] PV.Lcl PV.LclR RV.Lcl
def Po : gE prog 184 = some [(0, 1), (1, 1), (2, 1), (3, 1)] := by kernel_rfl
def ZV : gE prog 26 = some [(0, 1), (1, 1)] := by kernel_rfl
def Pp : gE prog 32 = some [(0, 2), (2, 1), (3, 1), (4, 1), (5, 1), (6, 1), (7, 1)] := by kernel_rfl
def ZW : gE prog 70 = some [(0, 1), (1, 1), (2, 1), (3, 1), (4, 1)] := by kernel_rfl
def ZX {x : cU}  (hb : fi x ≤ 68719476736) : aB prog 147 [(true, [val (vI x.Segment), val (vI x.Base), sl .v (x.Ids.map ak), sl .v (x.acA.map ak), sl .v (x.Rows.map ak)])] (aA [(true, [val (vI x.Segment), val (vI x.Base), sl aa (x.Ids.map ak), sl aa (x.acA.map ak), sl aa (x.Rows.map ak)])]) := by
 refine sF func147 fun h0 w0 Fz0 => ?_
 refine sn 0 2 fun hl0_2 => ?_
 refine sn 0 3 fun hl0_3 => ?_
 refine sn 0 4 fun hl0_4 => ?_
 have hbu := hb
 simp only [fi, ek, bd] at hbu
 refine qC ?_
 refine BK ?_
 refine mQ ?_
 refine dA 0 ?_ (x := lF mn)
 refine dA 1 ?_ (x := lD [sl .v _] bv)
 refine dA 3 ?_ (x := cL [(false, [sl _ _])] [(false, [sl .v _])] oN (hs := by exact oW (by omega)))
 refine dA 0 ?_ (x := lF kl)
 refine Ls ?_
 refine dA 0 ?_ (x := lF iZ)
 refine dA 64 ?_ (x := lD [sl .v _] bv)
 refine dA 255 ?_ (x := cL [(false, [sl _ _])] [(false, [sl .v _])] oN (hs := by exact oW (by omega)))
 refine dA 223 ?_ (x := lF mn)
 refine dA 1023 ?_ (x := bg (ag := false) (vs := [sl _ _]) bv (by exact tI) (by exact rfl) (by exact nl rfl))
 refine dA 2047 ?_ (x := lF kl)
 refine dA 4095 ?_ (x := bg (ag := false) (vs := [sl _ _]) bv (by exact tI) (by exact rfl) (by exact nl rfl))
 refine dA 8191 ?_ (x := lF iZ)
 refine LZ ?_
 refine sO [(1, _), (2, _)] [(1, (70, [val _, val _, sl _ _, sl _ _, sl _ _])), (2, _)] ?_
 exact FZ
def ZY {x : cU}  (hb : fi x ≤ 68719476736) : aB prog 158 [(true, [val (vI x.Segment), val (vI x.Base), sl .v (x.Ids.map ak), sl .v (x.acA.map ak), sl .v (x.Rows.map ak)])] (aA [(true, [val (vI x.Segment), val (vI x.Base), sl aa (x.Ids.map ak), sl aa (x.acA.map ak), sl aa (x.Rows.map ak)])]) := by
 refine sF func158 fun h0 w0 Fz0 => ?_
 refine sn 0 2 fun hl0_2 => ?_
 refine sn 0 3 fun hl0_3 => ?_
 refine sn 0 4 fun hl0_4 => ?_
 have hbu := hb
 simp only [fi, ek, bd] at hbu
 refine qC ?_
 refine BK ?_
 refine mQ ?_
 refine dA 0 ?_ (x := lF pS)
 refine dA 1 ?_ (x := lD [val _] au)
 refine dA 0 ?_ (x := lF ng)
 refine dA 4 ?_ (x := lD [val _] au)
 refine dA 0 ?_ (x := cj (qs := []) (by decide) bF eP (by decide) rfl rfl rfl rfl rfl (by exact nl rfl) (by exact tI) rfl)
 refine dA 0 ?_ (x := lF mn)
 refine dA 32 ?_ (x := lD [sl .v _] bv)
 refine dA 112 ?_ (x := iN (by decide) bF eP rfl rfl (by decide) (by first | (intro cs hcs; obtain ⟨x, _, rfl⟩ := List.mem_map.1 hcs; exact rfl) | simp) (by first | (intro cs hcs; obtain ⟨x, _, rfl⟩ := List.mem_map.1 hcs; exact (an.cons (bor_val _) an.nil)) | simp) (by simp only [aq, aV, List.length_cons, List.length_nil]; omega) (by simp only [aq, aV, List.length_cons, List.length_nil]; omega))
 refine dA 0 ?_ (x := cj (qs := []) (by decide) bF eP (by decide) rfl rfl rfl rfl rfl (by exact nl rfl) (by exact tI) rfl)
 refine dA 0 ?_ (x := lF kl)
 refine Jt ?_
 refine dA 0 ?_ (x := cj (qs := []) (by decide) bF eP (by decide) rfl rfl rfl rfl rfl (by exact nl rfl) (by exact tI) rfl)
 refine dA 0 ?_ (x := lF iZ)
 refine dA 8192 ?_ (x := lD [sl .v _] bv)
 refine dA 32752 ?_ (x := iN (by decide) bF eP rfl rfl (by decide) (by first | (intro cs hcs; obtain ⟨x, _, rfl⟩ := List.mem_map.1 hcs; exact rfl) | simp) (by first | (intro cs hcs; obtain ⟨x, _, rfl⟩ := List.mem_map.1 hcs; exact (an.cons (bor_val _) an.nil)) | simp) (by simp only [aq, aV, List.length_cons, List.length_nil]; omega) (by simp only [aq, aV, List.length_cons, List.length_nil]; omega))
 refine dA 65535 ?_ (x := fB (qs := [(false, [val _]), (false, [val _]), (false, [sl _ _]), (false, [sl _ _]), (false, [sl _ _])]) (cs := [val _, val _, sl _ _, sl _ _, sl _ _]) (by decide) jb pT ZW (by exact rfl) (by exact (aI (by exact tI) (aI (by exact tI) (aI (by exact tI) (aI (by exact tI) (aI (by exact tI) tI)))))) rfl (by exact rfl))
 refine dA 131071 ?_ (x := bg (ag := true) (vs := [val _, val _, sl _ _, sl _ _, sl _ _]) jJ (by exact tI) (by exact rfl) (by exact nl rfl))
 exact FY
def ZZ {p4 : Fl} {x : acu}  (hb : bZ x ≤ 68719476736) : aB prog 145 [(true, [val (vI x.acv.Id), val (vI x.acv.acz), sl .v (x.acv.acw.map bj), sl .v (x.acv.Out.map ak), val (vI x.Time), sl .v (x.acD.map ak), val (vI x.Age), val (vI x.Sent), val (vI x.Cap), sl .v (x.Rows.map (bC p4))])] (aA [(true, [val (vI x.acv.Id), val (vI x.acv.acz), sl aw (x.acv.acw.map bj), sl aa (x.acv.Out.map ak), val (vI x.Time), sl aa (x.acD.map ak), val (vI x.Age), val (vI x.Sent), val (vI x.Cap), sl az (x.Rows.map (bC aa))])]) := by
 refine sF func145 fun h0 w0 Fz0 => ?_
 refine sn 0 2 fun hl0_2 => ?_
 refine sn 0 3 fun hl0_3 => ?_
 refine sn 0 5 fun hl0_5 => ?_
 refine sn 0 9 fun hl0_9 => ?_
 have hbu := hb
 simp only [bZ, ek, bd] at hbu
 refine ud ?_
 refine rX ?_ (x := (bY (by decide) fJ nk))
 refine aP ?_
 refine mQ ?_
 refine dA 0 ?_ (x := lF fw)
 refine Kn ?_
 refine dA 0 ?_ (x := lF hR)
 refine Ls ?_
 refine dA 0 ?_ (x := lF kd)
 refine dA 64 ?_ (x := lD [sl .v _] gy)
 refine dA 255 ?_ (x := cL [(false, [sl _ _])] [(false, [sl .v _])] OE (hs := by exact Pc (by omega)))
 refine dA 223 ?_ (x := lF fw)
 refine dA 1023 ?_ (x := bg (ag := true) (vs := [val _, val _, sl _ _, sl _ _]) fy (by exact tI) (by exact rfl) (by exact nl rfl))
 refine dA 2047 ?_ (x := lF hR)
 refine dA 4095 ?_ (x := bg (ag := false) (vs := [sl _ _]) bv (by exact tI) (by exact rfl) (by exact nl rfl))
 refine dA 8191 ?_ (x := lF kd)
 refine dA 16383 ?_ (x := bg (ag := false) (vs := [sl _ _]) gy (by exact tI) (by exact rfl) (by exact nl rfl))
 refine aP ?_
 refine sO [(1, _), (2, _)] [(1, (108, [val _, val _, sl _ _, sl _ _, val _, sl _ _, val _, val _, val _, sl _ _])), (2, _)] ?_
 exact Gc
def aaa {p3 : Fl} {x : cI}  (hb : eJ x ≤ 68719476736) : aB prog 146 [(true, [val (vI x.acv.Id), val (vI x.acv.acz), sl .v (x.acv.acw.map bj), sl .v (x.acv.Out.map ak), val (vI x.Time), val (vI x.Steps), sl .v (x.Rows.map (bC p3))])] (aA [(true, [val (vI x.acv.Id), val (vI x.acv.acz), sl aw (x.acv.acw.map bj), sl aa (x.acv.Out.map ak), val (vI x.Time), val (vI x.Steps), sl az (x.Rows.map (bC aa))])]) := by
 refine sF func146 fun h0 w0 Fz0 => ?_
 refine sn 0 2 fun hl0_2 => ?_
 refine sn 0 3 fun hl0_3 => ?_
 refine sn 0 6 fun hl0_6 => ?_
 have hbu := hb
 simp only [eJ, bd] at hbu
 refine wN ?_
 refine rX ?_ (x := (bY (by decide) kK rk))
 refine aP ?_
 refine mQ ?_
 refine dA 0 ?_ (x := lF ne)
 refine Kn ?_
 refine dA 0 ?_ (x := lF nf)
 refine dA 8 ?_ (x := lD [sl .v _] gy)
 refine dA 31 ?_ (x := cL [(false, [sl _ _])] [(false, [sl .v _])] OE (hs := by exact Pc (by omega)))
 refine dA 31 ?_ (x := lF ne)
 refine dA 127 ?_ (x := bg (ag := true) (vs := [val _, val _, sl _ _, sl _ _]) fy (by exact tI) (by exact rfl) (by exact nl rfl))
 refine dA 255 ?_ (x := lF nf)
 refine dA 511 ?_ (x := bg (ag := false) (vs := [sl _ _]) gy (by exact tI) (by exact rfl) (by exact nl rfl))
 refine aP ?_
 refine sO [(1, _), (2, _)] [(1, (63, [val _, val _, sl _ _, sl _ _, val _, val _, sl _ _])), (2, _)] ?_
 exact Gd
def aab {a : Int} {b : List Int} {c : Int} {d : Int}  (hb : b.length ≤ 68719476736) : aB prog 273 [(false, [val (vI a)]), (false, [sl .v (b.map ak)]), (false, [val (vI c)]), (false, [val (vI d)])] (aA [(true, [val (vI (aU.mk a b c d).Id), sl aa ((aU.mk a b c d).Values.map ak), val (vI (aU.mk a b c d).acI), val (vI (aU.mk a b c d).acE)])]) := by
 refine sF func273 fun h0 w0 Fz0 => ?_
 refine sj 1 fun hl1 => ?_
 refine sR ?_
 refine rX ?_ (x := (bY (by decide) fz lr))
 refine sT [0, 1, 2, 3, 8] [8] ?_
 refine rM ?_
 refine LH ?_
 refine la ?_
 refine rA ?_ (x := fB (qs := [(false, [val _]), (false, [sl _ _]), (false, [val _]), (false, [val _])]) (cs := [val _, sl _ _, val _, val _]) (by decide) fz lr Po (by exact rfl) (by exact (aI (by exact tI) (aI (by exact tI) (aI (by exact tI) (aI (by exact tI) tI))))) rfl (by exact rfl))
 refine Lq ?_
 exact (bu 8 (bu _ (aI (by exact rfl) (aI (by exact rfl) (aI en (aI (fun h => nomatch h) tI))))))
def aac {p1 : Fl} {x : List aU}  (hb : bX x ≤ 68719476736) : aB prog 232 [(false, [sl .v (x.map (cX p1))])] (aA [(false, [sl aS (x.map (cX aa))])]) := by
 refine sF func232 fun h0 w0 Fz0 => ?_
 refine sj 0 fun hl0 => ?_
 have hbu := hb
 simp only [bX] at hbu
 refine Mu ?_
 refine sS [0, 2] [] ?_
 refine sd ?_
 refine aP ?_
 refine xP ?_
 refine sL [0, 2] [] (fun k : Nat => k ≤ x.length) (fun k : Nat => [(3, RV.slc aS ((x.take k).map (cX aa))), (4, RV.int (k : Int))]) (fun k : Nat => []) (fun k : Nat => x.length - k) 0 (by omega) (by exact aI (by first | exact rfl | simp) (aI (by exact rfl) tI)) (by exact tI) ?_
 rintro k hk
 refine cP ?_
 refine oj ?_
 refine sc (fun hba => ?_) (fun hba => ?_)
 have hlt : k < x.length := by omega
 have hwm := cT (f := bW) hlt
 have htl : (x.take k).length = k := by rw [br]; omega
 have hwv : bW x[k] = x[k].Values.length := by simp only [bW, ek, bd]; omega
 refine bB ?_
 refine sP [0, 2, 3, 4] [] ?_
 refine dw dl ?_
 refine dA 0 ?_ (x := tM)
 refine eY ?_
 refine dA 6 ?_ (x := aY (by decide) cv (by exact tI) (by exact rfl) (by exact bc (by omega) rfl) (by exact rfl))
 refine dA 14 ?_ (x := bI (by decide) na (by exact nl rfl))
 refine dA 30 ?_ (x := lE [val _] au)
 refine eY ?_
 refine dA 192 ?_ (x := aY (by decide) cv (by exact tI) (by exact rfl) (by exact bc (by omega) rfl) (by exact rfl))
 refine dA 448 ?_ (x := bI (by decide) jE (by exact nl rfl))
 refine dA 960 ?_ (x := lE [sl .v _] bv)
 refine eY ?_
 refine dA 6144 ?_ (x := aY (by decide) cv (by exact tI) (by exact rfl) (by exact bc (by omega) rfl) (by exact rfl))
 refine dA 14336 ?_ (x := bI (by decide) jF (by exact nl rfl))
 refine dA 30720 ?_ (x := lE [val _] au)
 refine eY ?_
 refine dA 196608 ?_ (x := aY (by decide) cv (by exact tI) (by exact rfl) (by exact bc (by omega) rfl) (by exact rfl))
 refine dA 458752 ?_ (x := bI (by decide) gG (by exact nl rfl))
 refine dA 983040 ?_ (x := lE [val _] au)
 refine dA 2097150 ?_ (x := cL [(false, [val _]), (false, [sl _ _]), (false, [val _]), (false, [val _])] [(false, [val _]), (false, [sl .v _]), (false, [val _]), (false, [val _])] Xm (hs := by exact (aab (by omega))))
 refine dA 4194302 ?_ (x := cj (qs := [(true, [val _, sl _ _, val _, val _])]) (by decide) cv fz (by decide) rfl rfl rfl rfl rfl (by exact nl rfl) (by exact (aI (by exact tI) tI)) rfl)
 refine dA 8388607 ?_ (x := fe (by decide) cv fz rfl rfl (by decide) rfl (by simp only [aq, aV, List.length_cons, List.length_nil]; omega) (by simp only [aq, aV, List.length_cons, List.length_nil]; omega))
 refine dA 16777215 ?_ (x := tA)
 refine sG [0, 2, 3, 4] [] ?_
 exact zO
 exact zQ
def Pq {p1 p2 : Fl} {s : Store}  (hb : cd s ≤ 68719476736) : aB prog 143 [(true, [sl .v (s.act.map (aC p1 p2)), val (vI s.Now)])] (aA [(true, [sl bo (s.act.map (aC aS aa)), val (vI s.Now)])]) := by
 refine sF func143 fun h0 w0 Fz0 => ?_
 refine sn 0 0 fun hl0_0 => ?_
 have hbu := hb
 simp only [cd, eO, bd] at hbu
 refine jy ?_
 refine Bz ?_
 refine rA ?_ (x := lF fV)
 refine Ko ?_
 refine od ?_
 refine fF ?_
 refine um ?_
 refine lR ?_
 refine dZ ?_
 refine sP [1, 2, 3, 13, 14, 15] [1, 2, 3] ?_
 refine sL [1, 2, 3, 13, 14] [1, 2] (fun k : Nat => k ≤ s.act.length) (fun k : Nat => [(15, RV.int (k : Int))]) (fun k : Nat => [(3, (26, [sl bo ((s.act.take k).map (aC aS aa)), val (vI s.Now)]))]) (fun k : Nat => s.act.length - k) 0 (by omega) (by exact aI (by exact rfl) tI) (by exact aI (by exact rfl) tI) ?_
 rintro k hk
 refine cF ?_
 refine sc (fun hba => ?_) (fun hba => ?_)
 have hlt : k < s.act.length := by omega
 have hwm := cT (f := bX) hlt
 have hws : bX s.act[k] = s.act[k].length + (s.act[k].map bW).sum := rfl
 have htl : (s.act.take k).length = k := by rw [br]; omega
 refine bB ?_
 refine sT [1, 2, 3, 13, 14, 15] [1, 2, 3] ?_
 refine Ck ?_
 refine sS [1, 2, 3, 5, 13, 14, 15] [1, 2, 3] ?_
 refine sd ?_
 refine aP ?_
 refine sS [1, 2, 3, 5, 6, 13, 14, 15] [1, 2, 3] ?_
 refine sV ?_
 refine sP [1, 2, 3, 5, 6, 13, 14, 15, 20, 21, 22] [1, 2, 3] ?_
 refine sL [1, 2, 3, 5, 13, 14, 15, 20, 21] [1, 2, 3] (fun j : Nat => j ≤ s.act[k].length) (fun j : Nat => [(6, RV.slc aS ((s.act[k].take j).map (cX aa))), (22, RV.int (j : Int))]) (fun j : Nat => []) (fun j : Nat => s.act[k].length - j) 0 (by omega) (by exact aI (by exact rfl) (aI (by exact rfl) tI)) (by exact tI) ?_
 rintro j hj
 refine cF ?_
 refine sc (fun hbb => ?_) (fun hbb => ?_)
 have hlt2 : j < s.act[k].length := by omega
 have hwm2 := cT (f := bW) hlt2
 have hwv : bW s.act[k][j] = s.act[k][j].Values.length := by simp only [bW, ek, bd]; omega
 have htl2 : (s.act[k].take j).length = j := by rw [br]; omega
 refine bB ?_
 refine sT [1, 2, 3, 5, 6, 13, 14, 15, 20, 21, 22] [1, 2, 3] ?_
 refine wE ?_
 refine ua ?_
 refine sO [(1, _), (2, _), (3, _), (5, _), (6, _), (8, _), (13, _), (14, _), (15, _), (20, _), (21, _), (22, _)] [(1, _), (2, _), (3, _), (8, (184, [val _, sl _ _, val _, val _]))] ?_
 refine dw dl ?_
 refine dA 0 ?_ (x := tM)
 refine dA 0 ?_ (x := lF na)
 refine dA 2 ?_ (x := lD [val _] au)
 refine dA 0 ?_ (x := lF jE)
 refine dA 8 ?_ (x := lD [sl .v _] bv)
 refine dA 24 ?_ (x := cL [(false, [sl _ _])] [(false, [sl .v _])] oN (hs := by exact oW (by omega)))
 refine dA 0 ?_ (x := lF jF)
 refine dA 64 ?_ (x := lD [val _] au)
 refine dA 0 ?_ (x := lF gG)
 refine dA 256 ?_ (x := lD [val _] au)
 refine dA 1022 ?_ (x := fB (qs := [(false, [val _]), (false, [sl _ _]), (false, [val _]), (false, [val _])]) (cs := [val _, sl _ _, val _, val _]) (by decide) fz lr Po (by exact rfl) (by exact (aI (by exact tI) (aI (by exact tI) (aI (by exact tI) (aI (by exact tI) tI))))) rfl (by exact rfl))
 refine dA 2046 ?_ (x := cj (qs := [(true, [val _, sl _ _, val _, val _])]) (by decide) cv fz (by decide) rfl rfl rfl rfl rfl (by exact nl rfl) (by exact (aI (by exact tI) tI)) rfl)
 refine dA 4095 ?_ (x := fe (by decide) cv fz rfl rfl (by decide) rfl (by simp only [aq, aV, List.length_cons, List.length_nil]; omega) (by simp only [aq, aV, List.length_cons, List.length_nil]; omega))
 refine dA 8191 ?_ (x := tA)
 refine sG [1, 2, 3, 5, 6, 8, 13, 14, 15, 20, 21, 22] [1, 2, 3, 8] ?_
 refine df ?_
 refine nx (j + 1) (by omega) (e := (by exact aI (by exact cG (by rw [uM hlt2, bT]; exact rfl)) (aI (by exact rfl) tI)))
 have hend2 : j = s.act[k].length := by omega
 refine bG ?_
 refine sH [1, 2, 3, 5, 6, 13, 14, 15, 20, 21, 22] [1, 2, 3] ?_
 refine rA ?_ (x := lF kf)
 refine rA ?_ (x := cz (ms := [sl _ _]) (qs := [sl .v _]) (by decide) ko (fun _ => rfl) (by exact nl rfl) (by exact rfl) (by exact (aH am.nil)) (by exact (an.cons (bor_sl _) an.nil)))
 refine rA ?_ (x := tM)
 refine rA ?_ (x := cj (qs := [(false, [sl _ _])]) (by decide) di uX (by decide) rfl rfl rfl rfl rfl (by exact nl rfl) (by exact (aI (by exact tI) tI)) rfl)
 refine rA ?_ (x := fe (by decide) di uX rfl rfl (by decide) rfl (by simp only [aq, aV, List.length_cons, List.length_nil]; omega) (by simp only [aq, aV, List.length_cons, List.length_nil]; omega))
 refine LL ?_
 refine sO [(1, _), (2, _), (3, _), (5, _), (13, _), (14, _), (15, _), (20, _), (21, _), (22, _)] [(1, _), (2, _), (3, (26, [sl _ _, val _]))] ?_
 refine bf ?_
 refine df ?_
 refine nx (k + 1) (by omega) (f := (by exact aI (by rw [hend2, cn, uM hlt]; simp only [bT]; exact rfl) tI))
 have hend : k = s.act.length := by omega
 refine bG ?_
 refine sT [1, 2, 3, 13, 14, 15] [1, 2, 3] ?_
 exact HB
def Pr {p1 p2 : Fl} {s : Store}  (hb : cd s ≤ 68719476736) : aB prog 155 [(true, [sl .v (s.act.map (aC p1 p2)), val (vI s.Now)])] (aA [(true, [sl bo (s.act.map (aC aS aa)), val (vI s.Now)])]) := by
 refine sF func155 fun h0 w0 Fz0 => ?_
 refine sn 0 0 fun hl0_0 => ?_
 have hbu := hb
 simp only [cd, eO, bd] at hbu
 refine jy ?_
 refine Bz ?_
 refine rA ?_ (x := lF fV)
 refine Ko ?_
 refine od ?_
 refine fF ?_
 refine um ?_
 refine cH ?_
 refine sP [1, 2, 3, 4] [1, 2, 3] ?_
 refine sL [1, 2, 3] [1, 2] (fun k : Nat => k ≤ s.act.length) (fun k : Nat => [(4, RV.int (k : Int))]) (fun k : Nat => [(3, (26, [sl bo ((s.act.take k).map (aC aS aa)), val (vI s.Now)]))]) (fun k : Nat => s.act.length - k) 0 (by omega) (by exact aI (by exact rfl) tI) (by exact aI (by exact rfl) tI) ?_
 rintro k hk
 refine eH ?_
 refine sD ?_
 refine sc (fun hba => ?_) (fun hba => ?_)
 have hlt : k < s.act.length := by omega
 have hwm := cT (f := bX) hlt
 have hws : bX s.act[k] = s.act[k].length + (s.act[k].map bW).sum := rfl
 have htl : (s.act.take k).length = k := by rw [br]; omega
 refine bB ?_
 refine sQ [1, 2, 3, 4] [1, 2, 3] ?_
 refine dw dl ?_
 refine dA 0 ?_ (x := lF kf)
 refine dA 1 ?_ (x := cz (ms := [sl _ _]) (qs := [sl .v _]) (by decide) ko (fun _ => rfl) (by exact nl rfl) (by exact rfl) (by exact (aH am.nil)) (by exact (an.cons (bor_sl _) an.nil)))
 refine dA 0 ?_ (x := lF kf)
 refine dA 4 ?_ (x := lD [sl .v _] ko)
 refine dA 0 ?_ (x := sM)
 refine dA 28 ?_ (x := aY (by decide) di (by exact tI) (by exact rfl) (by exact bc (by omega) rfl) (by exact rfl))
 refine dA 60 ?_ (x := lE [sl .v _] gx)
 refine dA 124 ?_ (x := cL [(false, [sl _ _])] [(false, [sl .v _])] WY (hs := by exact (aac (by omega))))
 refine dA 252 ?_ (x := cj (qs := [(false, [sl _ _])]) (by decide) di uX (by decide) rfl rfl rfl rfl rfl (by exact nl rfl) (by exact (aI (by exact tI) tI)) rfl)
 refine dA 511 ?_ (x := fe (by decide) di uX rfl rfl (by decide) rfl (by simp only [aq, aV, List.length_cons, List.length_nil]; omega) (by simp only [aq, aV, List.length_cons, List.length_nil]; omega))
 refine dA 1023 ?_ (x := lF kf)
 refine dA 2047 ?_ (x := bg (ag := false) (vs := [sl _ _]) ko (by exact tI) (by exact rfl) (by exact nl rfl))
 refine sO [(1, _), (2, _), (3, _), (4, _)] [(1, _), (2, _), (3, (26, [sl _ _, val _]))] ?_
 exact wf
 have hend : k = s.act.length := by omega
 refine bG ?_
 refine sT [1, 2, 3, 4] [1, 2, 3] ?_
 exact HB
def Ps {p1 p2 p5 p6 p7 p8 p9 p11 p12 p13 p14 p16 p17 p18 : Fl} {e : aD}  (hb : bi e ≤ 68719476736) : aB prog 53 [(true, [sl .v (e.Store.act.map (aC p1 p2)), val (vI e.Store.Now), val (vI e.acy), sl .v (e.Order.map ak), sl .v (e.acu.map (aQ p5 p6 p7 p8 p9)), sl .v (e.Done.map (aX p11 p12 p13 p14)), sl .v (e.acG.map (aZ p16 p17 p18)), val (vI e.Steps)])] (aA [(true, [sl bo (e.Store.act.map (aC aS aa)), val (vI e.Store.Now), val (vI e.acy), sl aa (e.Order.map ak), sl bS (e.acu.map (aQ aw aa aa az aa)), sl bJ (e.Done.map (aX aw aa az aa)), sl bP (e.acG.map (aZ aa aa aa)), val (vI e.Steps)])]) := by
 refine sF func53 fun h0 w0 Fz0 => ?_
 refine sn 0 0 fun hl0_0 => ?_
 refine sn 0 3 fun hl0_3 => ?_
 refine sn 0 4 fun hl0_4 => ?_
 refine sn 0 5 fun hl0_5 => ?_
 refine sn 0 6 fun hl0_6 => ?_
 have hbu := hb
 simp only [bi, da, dQ, dP, ek, bd] at hbu
 refine py ?_
 refine aP ?_
 refine mQ ?_
 refine BB ?_
 refine dA 3 ?_ (x := cL [(true, [sl _ _, val _])] [(true, [sl .v _, val _])] Oz (hs := by exact (Pq (by omega))))
 refine dA 0 ?_ (x := lF jG)
 refine dA 8 ?_ (x := lD [val _] au)
 refine dA 0 ?_ (x := lF nb)
 refine dA 32 ?_ (x := lD [sl .v _] bv)
 refine dA 103 ?_ (x := cL [(false, [sl _ _])] [(false, [sl .v _])] oN (hs := by exact oW (by omega)))
 refine dA 0 ?_ (x := lF kh)
 refine dA 256 ?_ (x := lD [val _] au)
 refine dA 1023 ?_ (x := fB (qs := [(true, [sl _ _, val _]), (false, [val _]), (false, [sl _ _]), (false, [val _])]) (cs := [sl _ _, val _, val _, sl _ _, sl _ _, sl _ _, sl _ _, val _]) (by decide) lp ls Pp (by exact rfl) (by exact (aI (by exact tI) (aI (by exact tI) (aI (by exact tI) (aI (by exact tI) tI))))) rfl (by exact rfl))
 refine cb.step 0 (by exact tI) (by exact tI) (ay.of rfl (bY (by decide) lp ls)) (pd (cS.of_ rfl)) (by kernel_rfl) ?_
 refine dA 4095 ?_ (x := bg (ag := true) (vs := [sl _ _, val _, val _, sl _ _, sl _ _, sl _ _, sl _ _, val _]) bU (by exact tI) (by exact rfl) (by exact nl rfl))
 refine fF ?_
 refine og ?_
 refine pK ?_
 refine sP [1, 2, 3, 22, 23, 24] [1, 2, 3] ?_
 refine sL [1, 2, 3, 22, 23] [1, 2] (fun k : Nat => k ≤ e.acu.length) (fun k : Nat => [(24, RV.int (k : Int))]) (fun k : Nat => [(3, (32, [sl bo (e.Store.act.map (aC aS aa)), val (vI e.Store.Now), val (vI e.acy), sl aa (e.Order.map ak), sl bS ((e.acu.take k).map (aQ aw aa aa az aa)), sl bJ (([] : List cI).map (aX aw aa az aa)), sl bP (([] : List cU).map (aZ aa aa aa)), val (vI e.Steps)]))]) (fun k : Nat => e.acu.length - k) 0 (by omega) (by exact aI (by exact rfl) tI) (by exact aI (by exact rfl) tI) ?_
 rintro k hk
 refine cF ?_
 refine sc (fun hba => ?_) (fun hba => ?_)
 have hlt : k < e.acu.length := by omega
 have hwm := cT (f := bZ) hlt
 have hwu : bZ e.acu[k] = cr e.acu[k].acv + e.acu[k].acD.length + dH e.acu[k].Rows := by simp only [bZ, ek, bd]; omega
 have htl : (e.acu.take k).length = k := by rw [br]; omega
 refine bB ?_
 refine sT [1, 2, 3, 22, 23, 24] [1, 2, 3] ?_
 refine rY ?_
 refine rW ?_
 refine sO [(1, _), (2, _), (3, _), (5, _), (22, _), (23, _), (24, _)] [(1, _), (2, _), (3, _), (5, (108, [val _, val _, sl _ _, sl _ _, val _, sl _ _, val _, val _, val _, sl _ _]))] ?_
 refine dw dl ?_
 refine JY ?_
 refine dA 0 ?_ (x := lD [val _, val _, sl .v _, sl .v _, val _, sl .v _, val _, val _, val _, sl .v _] fW)
 refine dA 4 ?_ (x := cL [(true, [val _, val _, sl _ _, sl _ _, val _, sl _ _, val _, val _, val _, sl _ _])] [(true, [val _, val _, sl .v _, sl .v _, val _, sl .v _, val _, val _, val _, sl .v _])] WA (hs := by exact (ZZ (by omega))))
 refine dA 12 ?_ (x := cj (qs := [(true, [val _, val _, sl _ _, sl _ _, val _, sl _ _, val _, val _, val _, sl _ _])]) (by decide) bL fJ (by decide) rfl rfl rfl rfl rfl (by exact nl rfl) (by exact (aI (by exact tI) tI)) rfl)
 refine dA 31 ?_ (x := fe (by decide) bL fJ rfl rfl (by decide) rfl (by simp only [aq, aV, List.length_cons, List.length_nil]; omega) (by simp only [aq, aV, List.length_cons, List.length_nil]; omega))
 refine dA 63 ?_ (x := lF el)
 refine dA 127 ?_ (x := bg (ag := false) (vs := [sl _ _]) ea (by exact tI) (by exact rfl) (by exact nl rfl))
 refine sO [(1, _), (2, _), (3, _), (5, _), (22, _), (23, _), (24, _)] [(1, _), (2, _), (3, (32, [sl _ _, val _, val _, sl _ _, sl _ _, sl _ _, sl _ _, val _])), (5, _)] ?_
 exact Af
 have hend0 : k = e.acu.length := by omega
 refine it ?_
 refine sT [1, 2, 3, 22, 23, 24] [1, 2, 3] ?_
 refine oi ?_
 refine rA ?_ (x := lN fb)
 refine dZ ?_
 refine sP [1, 2, 3, 22, 23, 24, 37, 38, 39] [1, 2, 3] ?_
 refine sL [1, 2, 3, 22, 23, 24, 37, 38] [1, 2] (fun k : Nat => k ≤ e.Done.length) (fun k : Nat => [(39, RV.int (k : Int))]) (fun k : Nat => [(3, (32, [sl bo (e.Store.act.map (aC aS aa)), val (vI e.Store.Now), val (vI e.acy), sl aa (e.Order.map ak), sl bS (e.acu.map (aQ aw aa aa az aa)), sl bJ ((e.Done.take k).map (aX aw aa az aa)), sl bP (([] : List cU).map (aZ aa aa aa)), val (vI e.Steps)]))]) (fun k : Nat => e.Done.length - k) 0 (by omega) (by exact aI (by exact rfl) tI) (by exact aI (by rw [hend0, cn]; exact rfl) tI) ?_
 rintro k hk
 refine cF ?_
 refine sc (fun hbb => ?_) (fun hbb => ?_)
 have hlt : k < e.Done.length := by omega
 have hwm := cT (f := eJ) hlt
 have hwu : eJ e.Done[k] = cr e.Done[k].acv + dH e.Done[k].Rows := by simp only [eJ, bd]; omega
 have htl : (e.Done.take k).length = k := by rw [br]; omega
 refine bB ?_
 refine sT [1, 2, 3, 22, 23, 24, 37, 38, 39] [1, 2, 3] ?_
 refine wB ?_
 refine wz ?_
 refine sO [(1, _), (2, _), (3, _), (7, _), (22, _), (23, _), (24, _), (37, _), (38, _), (39, _)] [(1, _), (2, _), (3, _), (7, (63, [val _, val _, sl _ _, sl _ _, val _, val _, sl _ _]))] ?_
 refine dw dl ?_
 refine dA 0 ?_ (x := lF lh)
 refine dA 1 ?_ (x := cz (ms := [sl _ _]) (qs := [sl .v _]) (by decide) lm (fun _ => rfl) (by exact nl rfl) (by exact rfl) (by exact (aH am.nil)) (by exact (an.cons (bor_sl _) an.nil)))
 refine dA 0 ?_ (x := lD [val _, val _, sl .v _, sl .v _, val _, val _, sl .v _] ni)
 refine dA 4 ?_ (x := cL [(true, [val _, val _, sl _ _, sl _ _, val _, val _, sl _ _])] [(true, [val _, val _, sl .v _, sl .v _, val _, val _, sl .v _])] WB (hs := by exact (aaa (by omega))))
 refine dA 12 ?_ (x := cj (qs := [(true, [val _, val _, sl _ _, sl _ _, val _, val _, sl _ _])]) (by decide) fb kK (by decide) rfl rfl rfl rfl rfl (by exact nl rfl) (by exact (aI (by exact tI) tI)) rfl)
 refine dA 31 ?_ (x := fe (by decide) fb kK rfl rfl (by decide) rfl (by simp only [aq, aV, List.length_cons, List.length_nil]; omega) (by simp only [aq, aV, List.length_cons, List.length_nil]; omega))
 refine dA 63 ?_ (x := lF lh)
 refine dA 127 ?_ (x := bg (ag := false) (vs := [sl _ _]) lm (by exact tI) (by exact rfl) (by exact nl rfl))
 refine sO [(1, _), (2, _), (3, _), (7, _), (22, _), (23, _), (24, _), (37, _), (38, _), (39, _)] [(1, _), (2, _), (3, (32, [sl _ _, val _, val _, sl _ _, sl _ _, sl _ _, sl _ _, val _])), (7, _)] ?_
 exact Af
 have hend1 : k = e.Done.length := by omega
 refine it ?_
 refine sT [1, 2, 3, 22, 23, 24, 37, 38, 39] [1, 2, 3] ?_
 refine pz ?_
 refine rA ?_ (x := lN eB)
 refine dZ ?_
 refine sP [1, 2, 3, 22, 23, 24, 37, 38, 39, 52, 53, 54] [1, 2, 3] ?_
 refine sL [1, 2, 3, 22, 23, 24, 37, 38, 39, 52, 53] [1, 2] (fun k : Nat => k ≤ e.acG.length) (fun k : Nat => [(54, RV.int (k : Int))]) (fun k : Nat => [(3, (32, [sl bo (e.Store.act.map (aC aS aa)), val (vI e.Store.Now), val (vI e.acy), sl aa (e.Order.map ak), sl bS (e.acu.map (aQ aw aa aa az aa)), sl bJ (e.Done.map (aX aw aa az aa)), sl bP ((e.acG.take k).map (aZ aa aa aa)), val (vI e.Steps)]))]) (fun k : Nat => e.acG.length - k) 0 (by omega) (by exact aI (by exact rfl) tI) (by exact aI (by rw [hend1, cn]; exact rfl) tI) ?_
 rintro k hk
 refine cF ?_
 refine sc (fun hbc => ?_) (fun hbc => ?_)
 have hlt : k < e.acG.length := by omega
 have hwm := cT (f := fi) hlt
 skip
 have htl : (e.acG.take k).length = k := by rw [br]; omega
 refine bB ?_
 refine sT [1, 2, 3, 22, 23, 24, 37, 38, 39, 52, 53, 54] [1, 2, 3] ?_
 refine AS ?_
 refine AR ?_
 refine sO [(1, _), (2, _), (3, _), (9, _), (22, _), (23, _), (24, _), (37, _), (38, _), (39, _), (52, _), (53, _), (54, _)] [(1, _), (2, _), (3, _), (9, (70, [val _, val _, sl _ _, sl _ _, sl _ _]))] ?_
 refine dw dl ?_
 refine JZ ?_
 refine dA 0 ?_ (x := lD [val _, val _, sl .v _, sl .v _, sl .v _] jJ)
 refine dA 4 ?_ (x := cL [(true, [val _, val _, sl _ _, sl _ _, sl _ _])] [(true, [val _, val _, sl .v _, sl .v _, sl .v _])] WC (hs := by exact (ZX (by omega))))
 refine dA 12 ?_ (x := cj (qs := [(true, [val _, val _, sl _ _, sl _ _, sl _ _])]) (by decide) eB jb (by decide) rfl rfl rfl rfl rfl (by exact nl rfl) (by exact (aI (by exact tI) tI)) rfl)
 refine dA 31 ?_ (x := fe (by decide) eB jb rfl rfl (by decide) rfl (by simp only [aq, aV, List.length_cons, List.length_nil]; omega) (by simp only [aq, aV, List.length_cons, List.length_nil]; omega))
 refine dA 63 ?_ (x := lF kg)
 refine dA 127 ?_ (x := bg (ag := false) (vs := [sl _ _]) kp (by exact tI) (by exact rfl) (by exact nl rfl))
 refine sO [(1, _), (2, _), (3, _), (9, _), (22, _), (23, _), (24, _), (37, _), (38, _), (39, _), (52, _), (53, _), (54, _)] [(1, _), (2, _), (3, (32, [sl _ _, val _, val _, sl _ _, sl _ _, sl _ _, sl _ _, val _])), (9, _)] ?_
 exact Af
 have hend2 : k = e.acG.length := by omega
 refine bG ?_
 refine sT [1, 2, 3, 22, 23, 24, 37, 38, 39, 52, 53, 54] [1, 2, 3] ?_
 exact HD
def Pt {p1 p2 p5 p6 p7 p8 p9 p11 p12 p13 p14 p16 p17 p18 : Fl} {e : aD}  (hb : bi e ≤ 68719476736) : aB prog 60 [(true, [sl .v (e.Store.act.map (aC p1 p2)), val (vI e.Store.Now), val (vI e.acy), sl .v (e.Order.map ak), sl .v (e.acu.map (aQ p5 p6 p7 p8 p9)), sl .v (e.Done.map (aX p11 p12 p13 p14)), sl .v (e.acG.map (aZ p16 p17 p18)), val (vI e.Steps)])] (aA [(true, [sl bo (e.Store.act.map (aC aS aa)), val (vI e.Store.Now), val (vI e.acy), sl aa (e.Order.map ak), sl bS (e.acu.map (aQ aw aa aa az aa)), sl bJ (e.Done.map (aX aw aa az aa)), sl bP (e.acG.map (aZ aa aa aa)), val (vI e.Steps)])]) := by
 refine sF func60 fun h0 w0 Fz0 => ?_
 refine sn 0 0 fun hl0_0 => ?_
 refine sn 0 3 fun hl0_3 => ?_
 refine sn 0 4 fun hl0_4 => ?_
 refine sn 0 5 fun hl0_5 => ?_
 refine sn 0 6 fun hl0_6 => ?_
 have hbu := hb
 simp only [bi, da, dQ, dP, ek, bd] at hbu
 refine py ?_
 refine aP ?_
 refine mQ ?_
 refine BB ?_
 refine dA 3 ?_ (x := cL [(true, [sl _ _, val _])] [(true, [sl .v _, val _])] OB (hs := by exact (Pr (by omega))))
 refine dA 0 ?_ (x := lF jG)
 refine dA 8 ?_ (x := lD [val _] au)
 refine dA 0 ?_ (x := cj (qs := []) (by decide) bF eP (by decide) rfl rfl rfl rfl rfl (by exact nl rfl) (by exact tI) rfl)
 refine dA 0 ?_ (x := lF nb)
 refine dA 64 ?_ (x := lD [sl .v _] bv)
 refine dA 231 ?_ (x := iN (by decide) bF eP rfl rfl (by decide) (by first | (intro cs hcs; obtain ⟨x, _, rfl⟩ := List.mem_map.1 hcs; exact rfl) | simp) (by first | (intro cs hcs; obtain ⟨x, _, rfl⟩ := List.mem_map.1 hcs; exact (an.cons (bor_val _) an.nil)) | simp) (by simp only [aq, aV, List.length_cons, List.length_nil]; omega) (by simp only [aq, aV, List.length_cons, List.length_nil]; omega))
 refine dA 0 ?_ (x := lF kh)
 refine dA 512 ?_ (x := lD [val _] au)
 refine dA 2047 ?_ (x := fB (qs := [(true, [sl _ _, val _]), (false, [val _]), (false, [sl _ _]), (false, [val _])]) (cs := [sl _ _, val _, val _, sl _ _, sl _ _, sl _ _, sl _ _, val _]) (by decide) lp ls Pp (by exact rfl) (by exact (aI (by exact tI) (aI (by exact tI) (aI (by exact tI) (aI (by exact tI) tI))))) rfl (by exact rfl))
 refine cb.step 0 (by exact tI) (by exact tI) (ay.of rfl (bY (by decide) lp ls)) (pd (cS.of_ rfl)) (by kernel_rfl) ?_
 refine dA 8191 ?_ (x := bg (ag := true) (vs := [sl _ _, val _, val _, sl _ _, sl _ _, sl _ _, sl _ _, val _]) bU (by exact tI) (by exact rfl) (by exact nl rfl))
 refine fF ?_
 refine og ?_
 refine cH ?_
 refine sP [1, 2, 3, 4] [1, 2, 3] ?_
 refine sL [1, 2, 3] [1, 2] (fun k : Nat => k ≤ e.acu.length) (fun k : Nat => [(4, RV.int (k : Int))]) (fun k : Nat => [(3, (32, [sl bo (e.Store.act.map (aC aS aa)), val (vI e.Store.Now), val (vI e.acy), sl aa (e.Order.map ak), sl bS ((e.acu.take k).map (aQ aw aa aa az aa)), sl bJ (([] : List cI).map (aX aw aa az aa)), sl bP (([] : List cU).map (aZ aa aa aa)), val (vI e.Steps)]))]) (fun k : Nat => e.acu.length - k) 0 (by omega) (by exact aI (by exact rfl) tI) (by exact aI (by exact rfl) tI) ?_
 rintro k hk
 refine eH ?_
 refine qQ ?_
 refine sc (fun hba => ?_) (fun hba => ?_)
 have hlt : k < e.acu.length := by omega
 have hwm := cT (f := bZ) hlt
 have hwu : bZ e.acu[k] = cr e.acu[k].acv + e.acu[k].acD.length + dH e.acu[k].Rows := by simp only [bZ, ek, bd]; omega
 have htl : (e.acu.take k).length = k := by rw [br]; omega
 refine bB ?_
 refine sT [1, 2, 3, 4] [1, 2, 3] ?_
 refine jV ?_
 refine rM ?_
 refine rY ?_
 refine rW ?_
 refine aP ?_
 refine wH ?_
 refine un ?_
 refine rA ?_ (x := cL [(true, [val _, val _, sl _ _, sl _ _])] [(true, [val _, val _, sl .v _, sl .v _])] yl (hs := by exact yu (by omega)))
 refine rA ?_ (x := lF fw)
 refine uf ?_
 refine wH ?_
 refine rA ?_ (x := cj (qs := []) (by decide) bF eP (by decide) rfl rfl rfl rfl rfl (by exact nl rfl) (by exact tI) rfl)
 refine BM ?_
 refine rA ?_ (x := iN (by decide) bF eP rfl rfl (by decide) (by first | (intro cs hcs; obtain ⟨x, _, rfl⟩ := List.mem_map.1 hcs; exact rfl) | simp) (by first | (intro cs hcs; obtain ⟨x, _, rfl⟩ := List.mem_map.1 hcs; exact (an.cons (bor_val _) an.nil)) | simp) (by simp only [aq, aV, List.length_cons, List.length_nil]; omega) (by simp only [aq, aV, List.length_cons, List.length_nil]; omega))
 refine rA ?_ (x := lF hR)
 refine kF ?_
 refine wH ?_
 refine rA ?_ (x := lF kd)
 refine LN ?_
 refine Bf ?_
 refine wH ?_
 refine AH ?_
 refine wo ?_
 refine AC ?_
 refine sO [(1, _), (2, _), (3, _), (4, _), (5, _)] [(1, _), (2, _), (3, (32, [sl _ _, val _, val _, sl _ _, sl _ _, sl _ _, sl _ _, val _])), (5, (108, [val _, val _, sl _ _, sl _ _, val _, sl _ _, val _, val _, val _, sl _ _]))] ?_
 exact wf
 have hend0 : k = e.acu.length := by omega
 refine it ?_
 refine sT [1, 2, 3, 4] [1, 2, 3] ?_
 refine cH ?_
 refine sP [1, 2, 3, 4, 6] [1, 2, 3] ?_
 refine sL [1, 2, 3, 4] [1, 2] (fun k : Nat => k ≤ e.Done.length) (fun k : Nat => [(6, RV.int (k : Int))]) (fun k : Nat => [(3, (32, [sl bo (e.Store.act.map (aC aS aa)), val (vI e.Store.Now), val (vI e.acy), sl aa (e.Order.map ak), sl bS (e.acu.map (aQ aw aa aa az aa)), sl bJ ((e.Done.take k).map (aX aw aa az aa)), sl bP (([] : List cU).map (aZ aa aa aa)), val (vI e.Steps)]))]) (fun k : Nat => e.Done.length - k) 0 (by omega) (by exact aI (by exact rfl) tI) (by exact aI (by rw [hend0, cn]; exact rfl) tI) ?_
 rintro k hk
 refine eH ?_
 refine oi ?_
 refine xt ?_
 refine sc (fun hbb => ?_) (fun hbb => ?_)
 have hlt : k < e.Done.length := by omega
 have hwm := cT (f := eJ) hlt
 have hwu : eJ e.Done[k] = cr e.Done[k].acv + dH e.Done[k].Rows := by simp only [eJ, bd]; omega
 have htl : (e.Done.take k).length = k := by rw [br]; omega
 refine bB ?_
 refine sT [1, 2, 3, 4, 6] [1, 2, 3] ?_
 refine oi ?_
 refine rM ?_
 refine wB ?_
 refine wz ?_
 refine aP ?_
 refine AZ ?_
 refine uo ?_
 refine rA ?_ (x := cL [(true, [val _, val _, sl _ _, sl _ _])] [(true, [val _, val _, sl .v _, sl .v _])] yl (hs := by exact yu (by omega)))
 refine rA ?_ (x := lF ne)
 refine uf ?_
 refine AZ ?_
 refine rA ?_ (x := lF nf)
 refine LN ?_
 refine LK ?_
 refine AZ ?_
 refine Kb ?_
 refine rA ?_ (x := cz (ms := [val _, val _, sl _ _, sl _ _, val _, val _, sl _ _]) (qs := [val _, val _, sl .v _, sl .v _, val _, val _, sl .v _]) (by decide) ni (fun h => nomatch h) (by exact nl rfl) (by exact rfl) (by exact (ap (ap (aH (aH (ap (ap (aH am.nil)))))))) (by exact lq))
 refine Jw ?_
 refine Bg ?_
 refine sO [(1, _), (2, _), (3, _), (4, _), (6, _), (7, _)] [(1, _), (2, _), (3, (32, [sl _ _, val _, val _, sl _ _, sl _ _, sl _ _, sl _ _, val _])), (7, (63, [val _, val _, sl _ _, sl _ _, val _, val _, sl _ _]))] ?_
 exact wf
 have hend1 : k = e.Done.length := by omega
 refine it ?_
 refine sT [1, 2, 3, 4, 6] [1, 2, 3] ?_
 refine cH ?_
 refine sP [1, 2, 3, 4, 6, 8] [1, 2, 3] ?_
 refine sL [1, 2, 3, 4, 6] [1, 2] (fun k : Nat => k ≤ e.acG.length) (fun k : Nat => [(8, RV.int (k : Int))]) (fun k : Nat => [(3, (32, [sl bo (e.Store.act.map (aC aS aa)), val (vI e.Store.Now), val (vI e.acy), sl aa (e.Order.map ak), sl bS (e.acu.map (aQ aw aa aa az aa)), sl bJ (e.Done.map (aX aw aa az aa)), sl bP ((e.acG.take k).map (aZ aa aa aa)), val (vI e.Steps)]))]) (fun k : Nat => e.acG.length - k) 0 (by omega) (by exact aI (by exact rfl) tI) (by exact aI (by rw [hend1, cn]; exact rfl) tI) ?_
 rintro k hk
 refine eH ?_
 refine pz ?_
 refine xq ?_
 refine sc (fun hbc => ?_) (fun hbc => ?_)
 have hlt : k < e.acG.length := by omega
 have hwm := cT (f := fi) hlt
 skip
 have htl : (e.acG.take k).length = k := by rw [br]; omega
 refine bB ?_
 refine sQ [1, 2, 3, 4, 6, 8] [1, 2, 3] ?_
 refine dw dl ?_
 refine JZ ?_
 refine dA 0 ?_ (x := lF kg)
 refine dA 4 ?_ (x := lD [sl .v _] kp)
 refine dA 0 ?_ (x := sM)
 refine dA 28 ?_ (x := aY (by decide) eB (by exact tI) (by exact rfl) (by exact bc (by omega) rfl) (by exact rfl))
 refine dA 60 ?_ (x := lE [val _, val _, sl .v _, sl .v _, sl .v _] jJ)
 refine dA 124 ?_ (x := cL [(true, [val _, val _, sl _ _, sl _ _, sl _ _])] [(true, [val _, val _, sl .v _, sl .v _, sl .v _])] WI (hs := by exact (ZY (by omega))))
 refine dA 252 ?_ (x := cj (qs := [(true, [val _, val _, sl _ _, sl _ _, sl _ _])]) (by decide) eB jb (by decide) rfl rfl rfl rfl rfl (by exact nl rfl) (by exact (aI (by exact tI) tI)) rfl)
 refine dA 511 ?_ (x := fe (by decide) eB jb rfl rfl (by decide) rfl (by simp only [aq, aV, List.length_cons, List.length_nil]; omega) (by simp only [aq, aV, List.length_cons, List.length_nil]; omega))
 refine dA 1023 ?_ (x := lF kg)
 refine dA 2047 ?_ (x := bg (ag := false) (vs := [sl _ _]) kp (by exact tI) (by exact rfl) (by exact nl rfl))
 refine sO [(1, _), (2, _), (3, _), (4, _), (6, _), (8, _)] [(1, _), (2, _), (3, (32, [sl _ _, val _, val _, sl _ _, sl _ _, sl _ _, sl _ _, val _]))] ?_
 exact wf
 have hend2 : k = e.acG.length := by omega
 refine bG ?_
 refine sT [1, 2, 3, 4, 6, 8] [1, 2, 3] ?_
 exact HD
end Go.Proofs.YtmekkgdboplbjaaGreat
