/- What functions of the program compute. No condition. -/
import Derived.Test.YtmekkgdboplbjaaGreatCG0
set_option linter.all false
namespace Go.Proofs.YtmekkgdboplbjaaGreat
open Go Go.RowKit M PV Tryz
set_option maxRecDepth 10000
attribute [local irreducible] PV.Lcl PV.LclR RV.Lcl
def Yn {x : List Int}  (hb : cf x ≤ 1048576) : aB prog 116 [(false, [sl .v (x.map ak)])] (aA [(false, [sl aa (x.map ak)])]) := by
 refine sF func116 fun h0 w0 Fz0 => ?_
 refine sj 0 fun hl0 => ?_
 have hbu := hb
 simp only [cf] at hbu
 refine pu ?_
 refine sS [0, 2] [] ?_
 refine lP ?_
 refine rX ?_ (x := (nF (by decide) bF eP rfl VE (by exact tI) (by exact tI) (by exact rfl) (by exact rfl) (by omega) (by omega)))
 refine oB ?_
 refine sL [0, 2, 3] [] (fun k : Nat => k ≤ x.length) (fun k : Nat => [(4, RV.int (k : Int))]) (fun k : Nat => [(7, (3, (fQ x ak [val (.int .i64 0)] k).flatten))]) (fun k : Nat => x.length - k) 0 (by omega) (by exact aI (by exact rfl) tI) (by exact aI (by rw [nB]; exact rfl) tI) ?_
 rintro k hk
 refine jX ?_
 refine sc (fun hba => ?_) (fun hba => ?_)
 have hlt : k < x.length := by omega
 have hwm := cT (f := bd) hlt
 refine oI ?_
 refine oa ?_
 refine rA ?_ (x := dN (by decide) bF (by exact tI) (by exact rfl) (by omega))
 refine rA ?_ (x := bg (ag := false) (vs := [val _]) au (by exact tI) (by exact rfl) (by exact nE (fun _ => rfl) rfl hlt))
 refine oo ?_
 refine nx (k + 1) (by omega) (f := (by exact aI (by exact congrArg (fun z => some (3, z)) (nD (e := 1) (fun _ => rfl) rfl hlt)) tI))
 have hlt : k = x.length := by omega
 refine om ?_
 refine rA ?_ (x := nH (es := (x.map ak)) (e := 1) (.inl rfl) (by decide) (by rw [hlt, nC]) (by exact aq _) (by intro c hc; obtain ⟨y, _, rfl⟩ := List.mem_map.1 hc; rfl))
 exact mJ
def Yo {x : dg}  (hb : mW x ≤ 1048576) : aB prog 264 [(true, [val (vI x.Field), val (vI x.Low), val (vI x.High)])] (aA [(true, [val (vI x.Field), val (vI x.Low), val (vI x.High)])]) := by
 refine sF func264 fun h0 w0 Fz0 => ?_
 have hbu := hb
 simp only [mW] at hbu
 refine wX ?_
 refine rX ?_ (x := (bY (by decide) oO uY))
 refine sT [1, 2] [1, 2] ?_
 refine rX ?_ (x := (bY (by decide) oO uY))
 refine aP ?_
 refine xd ?_
 refine rA ?_ (x := lF UY)
 refine rA ?_ (x := lD [val _] au)
 refine rA ?_ (x := lF mh)
 refine er ?_
 refine xd ?_
 refine rA ?_ (x := lF UZ)
 refine rA ?_ (x := lD [val _] au)
 refine rA ?_ (x := lF pQ)
 refine er ?_
 refine xd ?_
 refine rA ?_ (x := lF Va)
 refine rA ?_ (x := lD [val _] au)
 refine rA ?_ (x := lF mi)
 refine er ?_
 refine xd ?_
 refine rA ?_ (x := lD [val _, val _, val _] nh)
 refine rA ?_ (x := bg (ag := true) (vs := [val _, val _, val _]) nh (by exact tI) (by exact rfl) (by exact nl rfl))
 refine eo ?_
 exact (bu 2 (bu _ (aI (by exact rfl) (aI (by exact rfl) (aI nh (aI (fun h => nomatch h) tI))))))
def Yp {x : cU}  (hb : fi x ≤ 1048576) : aB prog 212 [(true, [val (vI x.Segment), val (vI x.Base), sl .v (x.Ids.map ak), sl .v (x.acA.map ak), sl .v (x.Rows.map ak)])] (aA [(true, [val (vI x.Segment), val (vI x.Base), sl aa (x.Ids.map ak), sl aa (x.acA.map ak), sl aa (x.Rows.map ak)])]) := by
 refine sF func212 fun h0 w0 Fz0 => ?_
 refine sn 0 2 fun hl0_2 => ?_
 refine sn 0 3 fun hl0_3 => ?_
 refine sn 0 4 fun hl0_4 => ?_
 have hbu := hb
 simp only [fi] at hbu
 refine qC ?_
 refine rX ?_ (x := (bY (by decide) jb pT))
 refine sT [1, 2] [1, 2] ?_
 refine BK ?_
 refine uj ?_
 refine rA ?_ (x := lF UW)
 refine rA ?_ (x := lD [val _] au)
 refine rA ?_ (x := lF pS)
 refine er ?_
 refine uj ?_
 refine rA ?_ (x := lF UX)
 refine rA ?_ (x := lD [val _] au)
 refine rA ?_ (x := lF ng)
 refine er ?_
 refine uj ?_
 refine rA ?_ (x := lF Nn)
 refine pq ?_
 refine rA ?_ (x := lF mn)
 refine kF ?_
 refine uj ?_
 refine rA ?_ (x := lF No)
 refine pq ?_
 refine rA ?_ (x := lF kl)
 refine kF ?_
 refine uj ?_
 refine rA ?_ (x := lF Np)
 refine pq ?_
 refine rA ?_ (x := lF iZ)
 refine kF ?_
 refine sO [(1, _), (2, _), (3, _)] [(1, _), (2, _), (3, (70, [val _, val _, sl _ _, sl _ _, sl _ _]))] ?_
 exact FZ
def Yq {x : List dg}  (hb : iX x ≤ 1048576) : aB prog 213 [(false, [sl .v (x.map bj)])] (aA [(false, [sl aw (x.map bj)])]) := by
 refine sF func213 fun h0 w0 Fz0 => ?_
 refine sj 0 fun hl0 => ?_
 have hbu := hb
 simp only [iX] at hbu
 refine sR ?_
 refine rA ?_ (x := iz (.inr rfl) (by decide) (jl (t := 178) (e := 3)))
 refine mN ?_
 refine rA ?_ (x := lN ya)
 refine rX ?_ (x := (nF (by decide) eC oO rfl uY (by exact tI) (by exact tI) (by exact rfl) (by exact rfl) (by omega) (by omega)))
 refine oB ?_
 refine sL [0, 2, 3] [] (fun k : Nat => k ≤ x.length) (fun k : Nat => [(4, RV.int (k : Int))]) (fun k : Nat => [(7, (178, (fQ x bj [val (.int .i64 0), val (.int .i64 0), val (.int .i64 0)] k).flatten))]) (fun k : Nat => x.length - k) 0 (by omega) (by exact aI (by exact rfl) tI) (by exact aI (by rw [nB]; exact rfl) tI) ?_
 rintro k hk
 refine cP ?_
 refine rA ?_ (x := lN ya)
 refine rA ?_ (x := cu)
 refine sc (fun hba => ?_) (fun hba => ?_)
 have hlt : k < x.length := by omega
 have hwm := cT (f := mW) hlt
 refine oI ?_
 refine rA ?_ (x := aY (by decide) ya (by exact tI) (by exact rfl) (by exact bc (by omega) rfl) (by exact rfl))
 refine rA ?_ (x := lE [val _, val _, val _] Vz)
 refine rA ?_ (x := cL [(true, [val _, val _, val _])] [(true, [val _, val _, val _])] UC (hs := by exact Yo (by omega)))
 refine rA ?_ (x := dN (by decide) eC (by exact tI) (by exact rfl) (by omega))
 refine rA ?_ (x := bg (ag := true) (vs := [val _, val _, val _]) nh (by exact tI) (by exact rfl) (by exact nE (fun _ => rfl) rfl hlt))
 refine oo ?_
 refine nx (k + 1) (by omega) (f := (by exact aI (by exact congrArg (fun z => some (178, z)) (nD (e := 3) (fun _ => rfl) rfl hlt)) tI))
 have hlt : k = x.length := by omega
 refine om ?_
 refine rA ?_ (x := nH (es := (x.map bj)) (e := 3) (.inl rfl) (by decide) (by rw [hlt, nC]) (by exact aq _) (by intro c hc; obtain ⟨y, _, rfl⟩ := List.mem_map.1 hc; rfl))
 exact mJ
def OT {x : Row}  (hb : dv x ≤ 1048576) : aB prog 214 [(true, [val (vI x.Id), sl .v (x.Values.map ak)])] (aA [(true, [val (vI x.Id), sl aa (x.Values.map ak)])]) := by
 refine sF func214 fun h0 w0 Fz0 => ?_
 refine sn 0 1 fun hl0_1 => ?_
 have hbu := hb
 simp only [dv] at hbu
 refine qF ?_
 refine rX ?_ (x := (bY (by decide) ja mp))
 refine sT [1, 2] [1, 2] ?_
 refine xl ?_
 refine Bv ?_
 refine rA ?_ (x := lF Vj)
 refine BU ?_
 refine er ?_
 refine Bv ?_
 refine rA ?_ (x := lF Nz)
 refine pq ?_
 refine rA ?_ (x := lF iw)
 refine kF ?_
 refine Bv ?_
 refine rA ?_ (x := cz (ms := [val _, sl _ _]) (qs := [val _, sl .v _]) (by decide) fI (fun h => nomatch h) (by exact nl rfl) (by exact rfl) (by exact (ap (aH am.nil))) (by exact (an.cons (bor_val _) (an.cons (bor_sl _) an.nil))))
 refine rA ?_ (x := bg (ag := true) (vs := [val _, sl _ _]) fI (by exact tI) (by exact rfl) (by exact nl rfl))
 exact zJ
def Yr {x : aU}  (hb : bW x ≤ 1048576) : aB prog 281 [(true, [val (vI x.Id), sl .v (x.Values.map ak), val (vI x.acI), val (vI x.acE)])] (aA [(true, [val (vI x.Id), sl aa (x.Values.map ak), val (vI x.acI), val (vI x.acE)])]) := by
 refine sF func281 fun h0 w0 Fz0 => ?_
 refine sn 0 1 fun hl0_1 => ?_
 have hbu := hb
 simp only [bW] at hbu
 refine qz ?_
 refine rX ?_ (x := (bY (by decide) fz lr))
 refine sT [1, 2] [1, 2] ?_
 refine rX ?_ (x := (bY (by decide) fz lr))
 refine aP ?_
 refine ul ?_
 refine rA ?_ (x := lF Vb)
 refine rA ?_ (x := lD [val _] au)
 refine rA ?_ (x := lF na)
 refine er ?_
 refine ul ?_
 refine rA ?_ (x := lF Nq)
 refine pq ?_
 refine rA ?_ (x := lF jE)
 refine kF ?_
 refine ul ?_
 refine rA ?_ (x := lF Vc)
 refine rA ?_ (x := lD [val _] au)
 refine rA ?_ (x := lF jF)
 refine er ?_
 refine ul ?_
 refine rA ?_ (x := lF Vd)
 refine rA ?_ (x := lD [val _] au)
 refine rA ?_ (x := lF gG)
 refine er ?_
 refine ul ?_
 refine rA ?_ (x := cz (ms := [val _, sl _ _, val _, val _]) (qs := [val _, sl .v _, val _, val _]) (by decide) en (fun h => nomatch h) (by exact nl rfl) (by exact rfl) (by exact (ap (aH (ap (ap am.nil))))) (by exact lq))
 refine Lq ?_
 exact (bu 2 (bu _ (aI (by exact rfl) (aI (by exact rfl) (aI en (aI (fun h => nomatch h) tI))))))
def Ys {p1 p2 p3 : Fl} {x : List cU}  (hb : dP x ≤ 1048576) : aB prog 119 [(false, [sl .v (x.map (aZ p1 p2 p3))])] (aA [(false, [sl bP (x.map (aZ aa aa aa))])]) := by
 refine sF func119 fun h0 w0 Fz0 => ?_
 refine sj 0 fun hl0 => ?_
 have hbu := hb
 simp only [dP] at hbu
 refine sR ?_
 refine rA ?_ (x := iz (.inr rfl) (by decide) (jl (t := 70) (e := 5)))
 refine mN ?_
 refine rA ?_ (x := lN uV)
 refine rX ?_ (x := (nF (by decide) eB jb rfl pT (by exact tI) (by exact tI) (by exact rfl) (by exact rfl) (by omega) (by omega)))
 refine oB ?_
 refine sL [0, 2, 3] [] (fun k : Nat => k ≤ x.length) (fun k : Nat => [(4, RV.int (k : Int))]) (fun k : Nat => [(7, (70, (fQ x (aZ aa aa aa) [val (.int .i64 0), val (.int .i64 0), sl aa [], sl aa [], sl aa []] k).flatten))]) (fun k : Nat => x.length - k) 0 (by omega) (by exact aI (by exact rfl) tI) (by exact aI (by rw [nB]; exact rfl) tI) ?_
 rintro k hk
 refine cP ?_
 refine rA ?_ (x := lN uV)
 refine rA ?_ (x := cu)
 refine sc (fun hba => ?_) (fun hba => ?_)
 have hlt : k < x.length := by omega
 have hwm := cT (f := fi) hlt
 refine oI ?_
 refine KD ?_
 refine rA ?_ (x := cL [(true, [val _, val _, sl _ _, sl _ _, sl _ _])] [(true, [val _, val _, sl .v _, sl .v _, sl .v _])] Ul (hs := by exact Yp (by omega)))
 refine rA ?_ (x := dN (by decide) eB (by exact tI) (by exact rfl) (by omega))
 refine rA ?_ (x := bg (ag := true) (vs := [val _, val _, sl _ _, sl _ _, sl _ _]) jJ (by exact tI) (by exact rfl) (by exact nE (fun _ => rfl) rfl hlt))
 refine oo ?_
 refine nx (k + 1) (by omega) (f := (by exact aI (by exact congrArg (fun z => some (70, z)) (nD (e := 5) (fun _ => rfl) rfl hlt)) tI))
 have hlt : k = x.length := by omega
 refine om ?_
 refine rA ?_ (x := nH (es := (x.map (aZ aa aa aa))) (e := 5) (.inl rfl) (by decide) (by rw [hlt, nC]) (by exact aq _) (by intro c hc; obtain ⟨y, _, rfl⟩ := List.mem_map.1 hc; rfl))
 exact mJ
def Yt {x : acv}  (hb : cr x ≤ 1048576) : aB prog 120 [(true, [val (vI x.Id), val (vI x.acz), sl .v (x.acw.map bj), sl .v (x.Out.map ak)])] (aA [(true, [val (vI x.Id), val (vI x.acz), sl aw (x.acw.map bj), sl aa (x.Out.map ak)])]) := by
 refine sF func120 fun h0 w0 Fz0 => ?_
 refine sn 0 2 fun hl0_2 => ?_
 refine sn 0 3 fun hl0_3 => ?_
 have hbu := hb
 simp only [cr] at hbu
 refine BN ?_
 refine sT [1, 2] [1, 2] ?_
 refine rX ?_ (x := (bY (by decide) nj uZ))
 refine aP ?_
 refine wY ?_
 refine rA ?_ (x := lF Vh)
 refine rA ?_ (x := lD [val _] au)
 refine rA ?_ (x := lF fx)
 refine er ?_
 refine wY ?_
 refine rA ?_ (x := lF Vi)
 refine rA ?_ (x := lD [val _] au)
 refine rA ?_ (x := lF iY)
 refine er ?_
 refine wY ?_
 refine rA ?_ (x := lF Nx)
 refine rA ?_ (x := lD [sl .v _] NI)
 refine rA ?_ (x := cL [(false, [sl _ _])] [(false, [sl .v _])] Um (hs := by exact Yq (by omega)))
 refine LJ ?_
 refine aP ?_
 refine wY ?_
 refine rA ?_ (x := lF Ny)
 refine pq ?_
 refine rA ?_ (x := lF ki)
 refine kF ?_
 refine sO [(1, _), (2, _), (3, _)] [(1, _), (2, _), (3, (52, [val _, val _, sl _ _, sl _ _]))] ?_
 exact Gb
def Yu {x : acx}  (hb : hO x ≤ 1048576) : aB prog 121 [(true, [val (vI x.Kind), val (vI x.Row.Id), sl .v (x.Row.Values.map ak), val (vI x.Field), val (vI x.Value)])] (aA [(true, [val (vI x.Kind), val (vI x.Row.Id), sl aa (x.Row.Values.map ak), val (vI x.Field), val (vI x.Value)])]) := by
 refine sF func121 fun h0 w0 Fz0 => ?_
 refine sn 0 2 fun hl0_2 => ?_
 have hbu := hb
 simp only [hO] at hbu
 refine se ?_
 refine rX ?_ (x := (bY (by decide) CK CL))
 refine sT [1, 2] [1, 2] ?_
 refine rX ?_ (x := (bY (by decide) CK CL))
 refine aP ?_
 refine uk ?_
 refine rA ?_ (x := lF Vk)
 refine rA ?_ (x := lD [val _] au)
 refine rA ?_ (x := lF lj)
 refine er ?_
 refine uk ?_
 refine rA ?_ (x := lF NA)
 refine rA ?_ (x := lD [val _, sl .v _] CJ)
 refine rA ?_ (x := cL [(true, [val _, sl _ _])] [(true, [val _, sl .v _])] Nb (hs := by exact OT (by omega)))
 refine rA ?_ (x := lF hZ)
 refine rA ?_ (x := bg (ag := true) (vs := [val _, sl _ _]) fI (by exact tI) (by exact rfl) (by exact nl rfl))
 refine aP ?_
 refine uk ?_
 refine rA ?_ (x := lF Vl)
 refine rA ?_ (x := lD [val _] au)
 refine rA ?_ (x := lF mj)
 refine er ?_
 refine uk ?_
 refine rA ?_ (x := lF Vm)
 refine uu ?_
 refine er ?_
 refine uk ?_
 refine rA ?_ (x := cz (ms := [val _, val _, sl _ _, val _, val _]) (qs := [val _, val _, sl .v _, val _, val _]) (by decide) mo (fun h => nomatch h) (by exact nl rfl) (by exact rfl) (by exact (ap (ap (aH (ap (ap am.nil)))))) (by exact lq))
 refine rA ?_ (x := bg (ag := true) (vs := [val _, val _, sl _ _, val _, val _]) mo (by exact tI) (by exact rfl) (by exact nl rfl))
 refine eo ?_
 exact (bu 2 (bu _ (aI (by exact rfl) (aI (by exact rfl) (aI mo (aI (fun h => nomatch h) tI))))))
def Yv {p1 : Fl} {x : List aU}  (hb : bX x ≤ 1048576) : aB prog 262 [(false, [sl .v (x.map (cX p1))])] (aA [(false, [sl aS (x.map (cX aa))])]) := by
 refine sF func262 fun h0 w0 Fz0 => ?_
 refine sj 0 fun hl0 => ?_
 have hbu := hb
 simp only [bX] at hbu
 refine Mu ?_
 refine mN ?_
 refine rA ?_ (x := lN uR)
 refine rX ?_ (x := (nF (by decide) cv fz rfl lr (by exact tI) (by exact tI) (by exact rfl) (by exact rfl) (by omega) (by omega)))
 refine oB ?_
 refine sL [0, 2, 3] [] (fun k : Nat => k ≤ x.length) (fun k : Nat => [(4, RV.int (k : Int))]) (fun k : Nat => [(7, (184, (fQ x (cX aa) [val (.int .i64 0), sl aa [], val (.int .i64 0), val (.int .i64 0)] k).flatten))]) (fun k : Nat => x.length - k) 0 (by omega) (by exact aI (by exact rfl) tI) (by exact aI (by rw [nB]; exact rfl) tI) ?_
 rintro k hk
 refine cP ?_
 refine rA ?_ (x := lN uR)
 refine rA ?_ (x := cu)
 refine sc (fun hba => ?_) (fun hba => ?_)
 have hlt : k < x.length := by omega
 have hwm := cT (f := bW) hlt
 refine oI ?_
 refine KK ?_
 refine rA ?_ (x := cL [(true, [val _, sl _ _, val _, val _])] [(true, [val _, sl .v _, val _, val _])] UK (hs := by exact Yr (by omega)))
 refine rA ?_ (x := dN (by decide) cv (by exact tI) (by exact rfl) (by omega))
 refine rA ?_ (x := bg (ag := true) (vs := [val _, sl _ _, val _, val _]) en (by exact tI) (by exact rfl) (by exact nE (fun _ => rfl) rfl hlt))
 refine oo ?_
 refine nx (k + 1) (by omega) (f := (by exact aI (by exact congrArg (fun z => some (184, z)) (nD (e := 4) (fun _ => rfl) rfl hlt)) tI))
 have hlt : k = x.length := by omega
 refine om ?_
 refine rA ?_ (x := nH (es := (x.map (cX aa))) (e := 4) (.inl rfl) (by decide) (by rw [hlt, nC]) (by exact aq _) (by intro c hc; obtain ⟨y, _, rfl⟩ := List.mem_map.1 hc; rfl))
 exact mJ
def Yw {p1 : Fl} {x : List Row}  (hb : dH x ≤ 1048576) : aB prog 263 [(false, [sl .v (x.map (bC p1))])] (aA [(false, [sl az (x.map (bC aa))])]) := by
 refine sF func263 fun h0 w0 Fz0 => ?_
 refine sj 0 fun hl0 => ?_
 have hbu := hb
 simp only [dH] at hbu
 refine Bx ?_
 refine mN ?_
 refine rA ?_ (x := lN uQ)
 refine rX ?_ (x := (nF (by decide) gw ja rfl mp (by exact tI) (by exact tI) (by exact rfl) (by exact rfl) (by omega) (by omega)))
 refine oB ?_
 refine sL [0, 2, 3] [] (fun k : Nat => k ≤ x.length) (fun k : Nat => [(4, RV.int (k : Int))]) (fun k : Nat => [(7, (54, (fQ x (bC aa) [val (.int .i64 0), sl aa []] k).flatten))]) (fun k : Nat => x.length - k) 0 (by omega) (by exact aI (by exact rfl) tI) (by exact aI (by rw [nB]; exact rfl) tI) ?_
 rintro k hk
 refine cP ?_
 refine rA ?_ (x := lN uQ)
 refine rA ?_ (x := cu)
 refine sc (fun hba => ?_) (fun hba => ?_)
 have hlt : k < x.length := by omega
 have hwm := cT (f := dv) hlt
 refine oI ?_
 refine KZ ?_
 refine rA ?_ (x := cL [(true, [val _, sl _ _])] [(true, [val _, sl .v _])] Nb (hs := by exact OT (by omega)))
 refine rA ?_ (x := dN (by decide) gw (by exact tI) (by exact rfl) (by omega))
 refine rA ?_ (x := bg (ag := true) (vs := [val _, sl _ _]) fI (by exact tI) (by exact rfl) (by exact nE (fun _ => rfl) rfl hlt))
 refine oo ?_
 refine nx (k + 1) (by omega) (f := (by exact aI (by exact congrArg (fun z => some (54, z)) (nD (e := 2) (fun _ => rfl) rfl hlt)) tI))
 have hlt : k = x.length := by omega
 refine om ?_
 refine rA ?_ (x := nH (es := (x.map (bC aa))) (e := 2) (.inl rfl) (by decide) (by rw [hlt, nC]) (by exact aq _) (by intro c hc; obtain ⟨y, _, rfl⟩ := List.mem_map.1 hc; rfl))
 exact mJ
def Yx {x : cC}  (hb : fG x ≤ 1048576) : aB prog 40 [(true, [val (vI x.Kind), val (vI x.acv.Id), val (vI x.acv.acz), sl .v (x.acv.acw.map bj), sl .v (x.acv.Out.map ak), val (vI x.Limit), val (vI x.Id), val (vI x.acx.Kind), val (vI x.acx.Row.Id), sl .v (x.acx.Row.Values.map ak), val (vI x.acx.Field), val (vI x.acx.Value), val (vI x.Steps)])] (aA [(true, [val (vI x.Kind), val (vI x.acv.Id), val (vI x.acv.acz), sl aw (x.acv.acw.map bj), sl aa (x.acv.Out.map ak), val (vI x.Limit), val (vI x.Id), val (vI x.acx.Kind), val (vI x.acx.Row.Id), sl aa (x.acx.Row.Values.map ak), val (vI x.acx.Field), val (vI x.acx.Value), val (vI x.Steps)])]) := by
 refine sF func40 fun h0 w0 Fz0 => ?_
 refine sn 0 3 fun hl0_3 => ?_
 refine sn 0 4 fun hl0_4 => ?_
 refine sn 0 9 fun hl0_9 => ?_
 have hbu := hb
 simp only [fG] at hbu
 refine ub ?_
 refine rX ?_ (x := (bY (by decide) yb yc))
 refine sT [1, 2] [1, 2] ?_
 refine rX ?_ (x := (bY (by decide) yb yc))
 refine aP ?_
 refine qx ?_
 refine rA ?_ (x := lF Vn)
 refine rA ?_ (x := lD [val _] au)
 refine rA ?_ (x := lF uP)
 refine er ?_
 refine qx ?_
 refine rA ?_ (x := lF NB)
 refine AM ?_
 refine rA ?_ (x := lF ta)
 refine uf ?_
 refine qx ?_
 refine rA ?_ (x := lF Vo)
 refine rA ?_ (x := lD [val _] au)
 refine rA ?_ (x := lF pR)
 refine er ?_
 refine qx ?_
 refine rA ?_ (x := lF Vp)
 refine rA ?_ (x := lD [val _] au)
 refine rA ?_ (x := lF ml)
 refine er ?_
 refine qx ?_
 refine Mt ?_
 refine rA ?_ (x := cL [(true, [val _, val _, sl _ _, val _, val _])] [(true, [val _, val _, sl .v _, val _, val _])] TC (hs := by exact Yu (by omega)))
 refine rA ?_ (x := lF mm)
 refine rA ?_ (x := bg (ag := true) (vs := [val _, val _, sl _ _, val _, val _]) mo (by exact tI) (by exact rfl) (by exact nl rfl))
 refine aP ?_
 refine qx ?_
 refine rA ?_ (x := lF Vr)
 refine rA ?_ (x := lD [val _] au)
 refine rA ?_ (x := lF nd)
 refine er ?_
 refine qx ?_
 refine rA ?_ (x := cz (ms := [val _, val _, val _, sl _ _, sl _ _, val _, val _, val _, val _, sl _ _, val _, val _, val _]) (qs := [val _, val _, val _, sl .v _, sl .v _, val _, val _, val _, val _, sl .v _, val _, val _, val _]) (by decide) ln (fun h => nomatch h) (by exact nl rfl) (by exact rfl) (by exact (ap (ap (ap (aH (aH (ap (ap (ap (ap (aH (ap (ap (ap am.nil)))))))))))))) (by exact lq))
 refine rA ?_ (x := bg (ag := true) (vs := [val _, val _, val _, sl _ _, sl _ _, val _, val _, val _, val _, sl _ _, val _, val _, val _]) ln (by exact tI) (by exact rfl) (by exact nl rfl))
 refine eo ?_
 exact (bu 2 (bu _ (aI (by exact rfl) (aI (by exact rfl) (aI ln (aI (fun h => nomatch h) tI))))))
def Yy {p1 p2 : Fl} {x : List (List aU)}  (hb : eO x ≤ 1048576) : aB prog 209 [(false, [sl .v (x.map (aC p1 p2))])] (aA [(false, [sl bo (x.map (aC aS aa))])]) := by
 refine sF func209 fun h0 w0 Fz0 => ?_
 refine sj 0 fun hl0 => ?_
 have hbu := hb
 simp only [eO] at hbu
 refine sR ?_
 refine rA ?_ (x := iz (.inr rfl) (by decide) (jl (t := 139) (e := 1)))
 refine mN ?_
 refine rA ?_ (x := lN uS)
 refine rX ?_ (x := (nF (by decide) di uX rfl VD (by exact tI) (by exact tI) (by exact rfl) (by exact rfl) (by omega) (by omega)))
 refine oB ?_
 refine sL [0, 2, 3] [] (fun k : Nat => k ≤ x.length) (fun k : Nat => [(4, RV.int (k : Int))]) (fun k : Nat => [(7, (139, (fQ x (aC aS aa) [sl aS []] k).flatten))]) (fun k : Nat => x.length - k) 0 (by omega) (by exact aI (by exact rfl) tI) (by exact aI (by rw [nB]; exact rfl) tI) ?_
 rintro k hk
 refine cP ?_
 refine rA ?_ (x := lN uS)
 refine rA ?_ (x := cu)
 refine sc (fun hba => ?_) (fun hba => ?_)
 have hlt : k < x.length := by omega
 have hwm := cT (f := bX) hlt
 refine oI ?_
 refine Lh ?_
 refine rA ?_ (x := cL [(false, [sl _ _])] [(false, [sl .v _])] UA (hs := by exact Yv (by omega)))
 refine rA ?_ (x := dN (by decide) di (by exact tI) (by exact rfl) (by omega))
 refine rA ?_ (x := bg (ag := false) (vs := [sl _ _]) gx (by exact tI) (by exact rfl) (by exact nE (fun _ => rfl) rfl hlt))
 refine oo ?_
 refine nx (k + 1) (by omega) (f := (by exact aI (by exact congrArg (fun z => some (139, z)) (nD (e := 1) (fun _ => rfl) rfl hlt)) tI))
 have hlt : k = x.length := by omega
 refine om ?_
 refine rA ?_ (x := nH (es := (x.map (aC aS aa))) (e := 1) (.inl rfl) (by decide) (by rw [hlt, nC]) (by exact aq _) (by intro c hc; obtain ⟨y, _, rfl⟩ := List.mem_map.1 hc; rfl))
 exact mJ
def Yz {p4 : Fl} {x : acu}  (hb : bZ x ≤ 1048576) : aB prog 210 [(true, [val (vI x.acv.Id), val (vI x.acv.acz), sl .v (x.acv.acw.map bj), sl .v (x.acv.Out.map ak), val (vI x.Time), sl .v (x.acD.map ak), val (vI x.Age), val (vI x.Sent), val (vI x.Cap), sl .v (x.Rows.map (bC p4))])] (aA [(true, [val (vI x.acv.Id), val (vI x.acv.acz), sl aw (x.acv.acw.map bj), sl aa (x.acv.Out.map ak), val (vI x.Time), sl aa (x.acD.map ak), val (vI x.Age), val (vI x.Sent), val (vI x.Cap), sl az (x.Rows.map (bC aa))])]) := by
 refine sF func210 fun h0 w0 Fz0 => ?_
 refine sn 0 2 fun hl0_2 => ?_
 refine sn 0 3 fun hl0_3 => ?_
 refine sn 0 5 fun hl0_5 => ?_
 refine sn 0 9 fun hl0_9 => ?_
 have hbu := hb
 simp only [bZ] at hbu
 refine ud ?_
 refine rX ?_ (x := (bY (by decide) fJ nk))
 refine sT [1, 2] [1, 2] ?_
 refine rX ?_ (x := (bY (by decide) fJ nk))
 refine aP ?_
 refine qA ?_
 refine rA ?_ (x := lF Nh)
 refine AM ?_
 refine rA ?_ (x := lF fw)
 refine uf ?_
 refine qA ?_
 refine rA ?_ (x := lF UQ)
 refine rA ?_ (x := lD [val _] au)
 refine rA ?_ (x := lF mZ)
 refine er ?_
 refine qA ?_
 refine rA ?_ (x := lF Ni)
 refine pq ?_
 refine rA ?_ (x := lF hR)
 refine kF ?_
 refine qA ?_
 refine rA ?_ (x := lF UR)
 refine rA ?_ (x := lD [val _] au)
 refine xy ?_
 refine qA ?_
 refine rA ?_ (x := lF US)
 refine rA ?_ (x := lD [val _] au)
 refine rA ?_ (x := lF kc)
 refine er ?_
 refine qA ?_
 refine rA ?_ (x := lF UT)
 refine rA ?_ (x := lD [val _] au)
 refine rA ?_ (x := lF mg)
 refine er ?_
 refine qA ?_
 refine rA ?_ (x := lF Nj)
 refine LU ?_
 refine Bf ?_
 refine aP ?_
 refine sO [(1, _), (2, _), (3, _)] [(1, _), (2, _), (3, (108, [val _, val _, sl _ _, sl _ _, val _, sl _ _, val _, val _, val _, sl _ _]))] ?_
 exact Gc
def YA {p3 : Fl} {x : cI}  (hb : eJ x ≤ 1048576) : aB prog 211 [(true, [val (vI x.acv.Id), val (vI x.acv.acz), sl .v (x.acv.acw.map bj), sl .v (x.acv.Out.map ak), val (vI x.Time), val (vI x.Steps), sl .v (x.Rows.map (bC p3))])] (aA [(true, [val (vI x.acv.Id), val (vI x.acv.acz), sl aw (x.acv.acw.map bj), sl aa (x.acv.Out.map ak), val (vI x.Time), val (vI x.Steps), sl az (x.Rows.map (bC aa))])]) := by
 refine sF func211 fun h0 w0 Fz0 => ?_
 refine sn 0 2 fun hl0_2 => ?_
 refine sn 0 3 fun hl0_3 => ?_
 refine sn 0 6 fun hl0_6 => ?_
 have hbu := hb
 simp only [eJ] at hbu
 refine wN ?_
 refine rX ?_ (x := (bY (by decide) kK rk))
 refine sT [1, 2] [1, 2] ?_
 refine rX ?_ (x := (bY (by decide) kK rk))
 refine aP ?_
 refine wS ?_
 refine rA ?_ (x := lF Nk)
 refine AM ?_
 refine rA ?_ (x := lF ne)
 refine uf ?_
 refine wS ?_
 refine rA ?_ (x := lF UU)
 refine rA ?_ (x := lD [val _] au)
 refine rA ?_ (x := lF ri)
 refine er ?_
 refine wS ?_
 refine rA ?_ (x := lF UV)
 refine rA ?_ (x := lD [val _] au)
 refine rA ?_ (x := lF rj)
 refine er ?_
 refine wS ?_
 refine rA ?_ (x := lF Nl)
 refine LU ?_
 refine LK ?_
 refine aP ?_
 refine sO [(1, _), (2, _), (3, _)] [(1, _), (2, _), (3, (63, [val _, val _, sl _ _, sl _ _, val _, val _, sl _ _]))] ?_
 exact Gd
def YB {p1 p2 p3 : Fl} {x : List cC}  (hb : kH x ≤ 1048576) : aB prog 48 [(false, [sl .v (x.map (hP p1 p2 p3))])] (aA [(false, [sl (.own 58 13) (x.map (hP aw aa aa))])]) := by
 refine sF func48 fun h0 w0 Fz0 => ?_
 refine sj 0 fun hl0 => ?_
 have hbu := hb
 simp only [kH] at hbu
 refine sR ?_
 refine rA ?_ (x := iz (.inr rfl) (by decide) (jl (t := 58) (e := 13)))
 refine mN ?_
 refine rA ?_ (x := lN uW)
 refine rX ?_ (x := (nF (by decide) ia yb rfl yc (by exact tI) (by exact tI) (by exact rfl) (by exact rfl) (by omega) (by omega)))
 refine oB ?_
 refine sL [0, 2, 3] [] (fun k : Nat => k ≤ x.length) (fun k : Nat => [(4, RV.int (k : Int))]) (fun k : Nat => [(7, (58, (fQ x (hP aw aa aa) [val (.int .i64 0), val (.int .i64 0), val (.int .i64 0), sl aw [], sl aa [], val (.int .i64 0), val (.int .i64 0), val (.int .i64 0), val (.int .i64 0), sl aa [], val (.int .i64 0), val (.int .i64 0), val (.int .i64 0)] k).flatten))]) (fun k : Nat => x.length - k) 0 (by omega) (by exact aI (by exact rfl) tI) (by exact aI (by rw [nB]; exact rfl) tI) ?_
 rintro k hk
 refine cP ?_
 refine rA ?_ (x := lN uW)
 refine rA ?_ (x := cu)
 refine sc (fun hba => ?_) (fun hba => ?_)
 have hlt : k < x.length := by omega
 have hwm := cT (f := fG) hlt
 refine oI ?_
 refine JW ?_
 refine rA ?_ (x := cL [(true, [val _, val _, val _, sl _ _, sl _ _, val _, val _, val _, val _, sl _ _, val _, val _, val _])] [(true, [val _, val _, val _, sl .v _, sl .v _, val _, val _, val _, val _, sl .v _, val _, val _, val _])] UN (hs := by exact Yx (by omega)))
 refine rA ?_ (x := dN (by decide) ia (by exact tI) (by exact rfl) (by omega))
 refine rA ?_ (x := bg (ag := true) (vs := [val _, val _, val _, sl _ _, sl _ _, val _, val _, val _, val _, sl _ _, val _, val _, val _]) ln (by exact tI) (by exact rfl) (by exact nE (fun _ => rfl) rfl hlt))
 refine oo ?_
 refine nx (k + 1) (by omega) (f := (by exact aI (by exact congrArg (fun z => some (58, z)) (nD (e := 13) (fun _ => rfl) rfl hlt)) tI))
 have hlt : k = x.length := by omega
 refine om ?_
 refine rA ?_ (x := nH (es := (x.map (hP aw aa aa))) (e := 13) (.inl rfl) (by decide) (by rw [hlt, nC]) (by exact aq _) (by intro c hc; obtain ⟨y, _, rfl⟩ := List.mem_map.1 hc; rfl))
 exact mJ
def YC {p1 p2 : Fl} {x : Store}  (hb : cd x ≤ 1048576) : aB prog 115 [(true, [sl .v (x.act.map (aC p1 p2)), val (vI x.Now)])] (aA [(true, [sl bo (x.act.map (aC aS aa)), val (vI x.Now)])]) := by
 refine sF func115 fun h0 w0 Fz0 => ?_
 refine sn 0 0 fun hl0_0 => ?_
 have hbu := hb
 simp only [cd] at hbu
 refine jy ?_
 refine Bz ?_
 refine rX ?_ (x := (bY (by decide) tb tc))
 refine aP ?_
 refine um ?_
 refine rA ?_ (x := lF Nr)
 refine rA ?_ (x := lD [sl .v _] ND)
 refine rA ?_ (x := cL [(false, [sl _ _])] [(false, [sl .v _])] Ui (hs := by exact Yy (by omega)))
 refine LL ?_
 refine aP ?_
 refine um ?_
 refine rA ?_ (x := lF Ve)
 refine rA ?_ (x := lD [val _] au)
 refine xA ?_
 refine um ?_
 refine qv ?_
 refine eo ?_
 exact (bu 2 (bu _ (aI (by exact rfl) (aI (by exact rfl) (aI dV (aI (fun h => nomatch h) tI))))))
def YD {p1 p2 p3 p4 p5 : Fl} {x : List acu}  (hb : da x ≤ 1048576) : aB prog 117 [(false, [sl .v (x.map (aQ p1 p2 p3 p4 p5))])] (aA [(false, [sl bS (x.map (aQ aw aa aa az aa))])]) := by
 refine sF func117 fun h0 w0 Fz0 => ?_
 refine sj 0 fun hl0 => ?_
 have hbu := hb
 simp only [da] at hbu
 refine sR ?_
 refine rA ?_ (x := iz (.inr rfl) (by decide) (jl (t := 108) (e := 10)))
 refine mN ?_
 refine rA ?_ (x := lN uT)
 refine rX ?_ (x := (nF (by decide) bL fJ rfl nk (by exact tI) (by exact tI) (by exact rfl) (by exact rfl) (by omega) (by omega)))
 refine oB ?_
 refine sL [0, 2, 3] [] (fun k : Nat => k ≤ x.length) (fun k : Nat => [(4, RV.int (k : Int))]) (fun k : Nat => [(7, (108, (fQ x (aQ aw aa aa az aa) [val (.int .i64 0), val (.int .i64 0), sl aw [], sl aa [], val (.int .i64 0), sl aa [], val (.int .i64 0), val (.int .i64 0), val (.int .i64 0), sl az []] k).flatten))]) (fun k : Nat => x.length - k) 0 (by omega) (by exact aI (by exact rfl) tI) (by exact aI (by rw [nB]; exact rfl) tI) ?_
 rintro k hk
 refine cP ?_
 refine rA ?_ (x := lN uT)
 refine rA ?_ (x := cu)
 refine sc (fun hba => ?_) (fun hba => ?_)
 have hlt : k < x.length := by omega
 have hwm := cT (f := bZ) hlt
 refine oI ?_
 refine Kh ?_
 refine rA ?_ (x := cL [(true, [val _, val _, sl _ _, sl _ _, val _, sl _ _, val _, val _, val _, sl _ _])] [(true, [val _, val _, sl .v _, sl .v _, val _, sl .v _, val _, val _, val _, sl .v _])] Uj (hs := by exact Yz (by omega)))
 refine rA ?_ (x := dN (by decide) bL (by exact tI) (by exact rfl) (by omega))
 refine rA ?_ (x := bg (ag := true) (vs := [val _, val _, sl _ _, sl _ _, val _, sl _ _, val _, val _, val _, sl _ _]) fW (by exact tI) (by exact rfl) (by exact nE (fun _ => rfl) rfl hlt))
 refine oo ?_
 refine nx (k + 1) (by omega) (f := (by exact aI (by exact congrArg (fun z => some (108, z)) (nD (e := 10) (fun _ => rfl) rfl hlt)) tI))
 have hlt : k = x.length := by omega
 refine om ?_
 refine rA ?_ (x := nH (es := (x.map (aQ aw aa aa az aa))) (e := 10) (.inl rfl) (by decide) (by rw [hlt, nC]) (by exact aq _) (by intro c hc; obtain ⟨y, _, rfl⟩ := List.mem_map.1 hc; rfl))
 exact mJ
def YE {p1 p2 p3 p4 : Fl} {x : List cI}  (hb : dQ x ≤ 1048576) : aB prog 118 [(false, [sl .v (x.map (aX p1 p2 p3 p4))])] (aA [(false, [sl bJ (x.map (aX aw aa az aa))])]) := by
 refine sF func118 fun h0 w0 Fz0 => ?_
 refine sj 0 fun hl0 => ?_
 have hbu := hb
 simp only [dQ] at hbu
 refine sR ?_
 refine rA ?_ (x := iz (.inr rfl) (by decide) (jl (t := 63) (e := 7)))
 refine mN ?_
 refine rA ?_ (x := lN uU)
 refine rX ?_ (x := (nF (by decide) fb kK rfl rk (by exact tI) (by exact tI) (by exact rfl) (by exact rfl) (by omega) (by omega)))
 refine oB ?_
 refine sL [0, 2, 3] [] (fun k : Nat => k ≤ x.length) (fun k : Nat => [(4, RV.int (k : Int))]) (fun k : Nat => [(7, (63, (fQ x (aX aw aa az aa) [val (.int .i64 0), val (.int .i64 0), sl aw [], sl aa [], val (.int .i64 0), val (.int .i64 0), sl az []] k).flatten))]) (fun k : Nat => x.length - k) 0 (by omega) (by exact aI (by exact rfl) tI) (by exact aI (by rw [nB]; exact rfl) tI) ?_
 rintro k hk
 refine cP ?_
 refine rA ?_ (x := lN uU)
 refine rA ?_ (x := cu)
 refine sc (fun hba => ?_) (fun hba => ?_)
 have hlt : k < x.length := by omega
 have hwm := cT (f := eJ) hlt
 refine oI ?_
 refine Kr ?_
 refine rA ?_ (x := cL [(true, [val _, val _, sl _ _, sl _ _, val _, val _, sl _ _])] [(true, [val _, val _, sl .v _, sl .v _, val _, val _, sl .v _])] Uk (hs := by exact YA (by omega)))
 refine rA ?_ (x := dN (by decide) fb (by exact tI) (by exact rfl) (by omega))
 refine rA ?_ (x := bg (ag := true) (vs := [val _, val _, sl _ _, sl _ _, val _, val _, sl _ _]) ni (by exact tI) (by exact rfl) (by exact nE (fun _ => rfl) rfl hlt))
 refine oo ?_
 refine nx (k + 1) (by omega) (f := (by exact aI (by exact congrArg (fun z => some (63, z)) (nD (e := 7) (fun _ => rfl) rfl hlt)) tI))
 have hlt : k = x.length := by omega
 refine om ?_
 refine rA ?_ (x := nH (es := (x.map (aX aw aa az aa))) (e := 7) (.inl rfl) (by decide) (by rw [hlt, nC]) (by exact aq _) (by intro c hc; obtain ⟨y, _, rfl⟩ := List.mem_map.1 hc; rfl))
 exact mJ
def OU {p1 p2 p5 p6 p7 p8 p9 p11 p12 p13 p14 p16 p17 p18 : Fl} {x : aD}  (hb : bi x ≤ 1048576) : aB prog 39 [(true, [sl .v (x.Store.act.map (aC p1 p2)), val (vI x.Store.Now), val (vI x.acy), sl .v (x.Order.map ak), sl .v (x.acu.map (aQ p5 p6 p7 p8 p9)), sl .v (x.Done.map (aX p11 p12 p13 p14)), sl .v (x.acG.map (aZ p16 p17 p18)), val (vI x.Steps)])] (aA [(true, [sl bo (x.Store.act.map (aC aS aa)), val (vI x.Store.Now), val (vI x.acy), sl aa (x.Order.map ak), sl bS (x.acu.map (aQ aw aa aa az aa)), sl bJ (x.Done.map (aX aw aa az aa)), sl bP (x.acG.map (aZ aa aa aa)), val (vI x.Steps)])]) := by
 refine sF func39 fun h0 w0 Fz0 => ?_
 refine sn 0 0 fun hl0_0 => ?_
 refine sn 0 3 fun hl0_3 => ?_
 refine sn 0 4 fun hl0_4 => ?_
 refine sn 0 5 fun hl0_5 => ?_
 refine sn 0 6 fun hl0_6 => ?_
 have hbu := hb
 simp only [bi] at hbu
 refine py ?_
 refine sT [1, 2] [1, 2] ?_
 refine rX ?_ (x := (bY (by decide) lp ls))
 refine aP ?_
 refine og ?_
 refine rA ?_ (x := lF Ns)
 refine rA ?_ (x := lD [sl .v _, val _] NE)
 refine rA ?_ (x := cL [(true, [sl _ _, val _])] [(true, [sl .v _, val _])] Tw (hs := by exact YC (by omega)))
 refine ug ?_
 refine aP ?_
 refine og ?_
 refine rA ?_ (x := lF Vf)
 refine rA ?_ (x := lD [val _] au)
 refine rA ?_ (x := lF jG)
 refine er ?_
 refine og ?_
 refine rA ?_ (x := lF Nt)
 refine pq ?_
 refine rA ?_ (x := lF nb)
 refine kF ?_
 refine og ?_
 refine rA ?_ (x := lF Nu)
 refine rA ?_ (x := lD [sl .v _] NF)
 refine rA ?_ (x := cL [(false, [sl _ _])] [(false, [sl .v _])] Ty (hs := by exact YD (by omega)))
 refine qw ?_
 refine aP ?_
 refine og ?_
 refine rA ?_ (x := lF Nv)
 refine rA ?_ (x := lD [sl .v _] NG)
 refine rA ?_ (x := cL [(false, [sl _ _])] [(false, [sl .v _])] Tz (hs := by exact YE (by omega)))
 refine Bg ?_
 refine aP ?_
 refine og ?_
 refine rA ?_ (x := lF Nw)
 refine rA ?_ (x := lD [sl .v _] NH)
 refine rA ?_ (x := cL [(false, [sl _ _])] [(false, [sl .v _])] TA (hs := by exact Ys (by omega)))
 refine LM ?_
 refine aP ?_
 refine og ?_
 refine rA ?_ (x := lF Vg)
 refine rA ?_ (x := lD [val _] au)
 refine rA ?_ (x := lF kh)
 refine er ?_
 refine sO [(1, _), (2, _), (3, _)] [(1, _), (2, _), (3, (32, [sl _ _, val _, val _, sl _ _, sl _ _, sl _ _, sl _ _, val _]))] ?_
 exact Ge
end Go.Proofs.YtmekkgdboplbjaaGreat
