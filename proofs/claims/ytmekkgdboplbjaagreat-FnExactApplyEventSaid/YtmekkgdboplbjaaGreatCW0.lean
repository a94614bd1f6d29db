/- What functions of the program compute. No condition. -/
import Derived.Test.YtmekkgdboplbjaaGreatCU0
import Derived.Test.YtmekkgdboplbjaaGreatCV0
set_option linter.all false
namespace Go.Proofs.YtmekkgdboplbjaaGreat
open Go Go.RowKit M PV Tryz
set_option maxRecDepth 10000
attribute [local irreducible] PV.Lcl PV.LclR RV.Lcl
def Ll : fO prog 184 = some [(0, 1), (1, 1), (2, 1), (3, 1)] := by kernel_rfl
def Ui : fO prog 26 = some [(0, 1), (1, 1)] := by kernel_rfl
def Lm : fO prog 32 = some [(0, 2), (2, 1), (3, 1), (4, 1), (5, 1), (6, 1), (7, 1)] := by kernel_rfl
def Uj : fO prog 70 = some [(0, 1), (1, 1), (2, 1), (3, 1), (4, 1)] := by kernel_rfl
def Uk {x : cE}  (hb : eG x ≤ 68719476736) : aC prog 147 [(true, [val (vI x.Segment), val (vI x.Base), sl .v (x.Ids.map ak), sl .v (x.Wy.map ak), sl .v (x.Rows.map ak)])] (az [(true, [val (vI x.Segment), val (vI x.Base), sl aa (x.Ids.map ak), sl aa (x.Wy.map ak), sl aa (x.Rows.map ak)])]) := by
 refine sF func147 fun h0 w0 Fz0 => ?_
 refine sn 0 2 fun hl0_2 => ?_
 refine sn 0 3 fun hl0_3 => ?_
 refine sn 0 4 fun hl0_4 => ?_
 have hbu := hb
 simp only [eG, dM, a9] at hbu
 refine oZ ?_
 refine zM ?_
 refine lC ?_
 refine dA 0 ?_ (x := lF kU)
 refine dA 1 ?_ (x := lD [sl .v _] bq)
 refine dA 3 ?_ (x := cL [(false, [sl _ _])] [(false, [sl .v _])] mO (hs := by exact m8 (by omega)))
 refine dA 0 ?_ (x := lF jx)
 refine If ?_
 refine dA 0 ?_ (x := lF iA)
 refine dA 64 ?_ (x := lD [sl .v _] bq)
 refine dA 255 ?_ (x := cL [(false, [sl _ _])] [(false, [sl .v _])] mO (hs := by exact m8 (by omega)))
 refine dA 223 ?_ (x := lF kU)
 refine dA 1023 ?_ (x := bd (ag := false) (vs := [sl _ _]) bq (by exact tI) (by exact rfl) (by exact nl rfl))
 refine dA 2047 ?_ (x := lF jx)
 refine dA 4095 ?_ (x := bd (ag := false) (vs := [sl _ _]) bq (by exact tI) (by exact rfl) (by exact nl rfl))
 refine dA 8191 ?_ (x := lF iA)
 refine IE ?_
 refine sO [(1, _), (2, _)] [(1, (70, [val _, val _, sl _ _, sl _ _, sl _ _])), (2, _)] ?_
 exact Dq
def Ul {x : cE}  (hb : eG x ≤ 68719476736) : aC prog 158 [(true, [val (vI x.Segment), val (vI x.Base), sl .v (x.Ids.map ak), sl .v (x.Wy.map ak), sl .v (x.Rows.map ak)])] (az [(true, [val (vI x.Segment), val (vI x.Base), sl aa (x.Ids.map ak), sl aa (x.Wy.map ak), sl aa (x.Rows.map ak)])]) := by
 refine sF func158 fun h0 w0 Fz0 => ?_
 refine sn 0 2 fun hl0_2 => ?_
 refine sn 0 3 fun hl0_3 => ?_
 refine sn 0 4 fun hl0_4 => ?_
 have hbu := hb
 simp only [eG, dM, a9] at hbu
 refine oZ ?_
 refine zM ?_
 refine lC ?_
 refine dA 0 ?_ (x := lF oo)
 refine dA 1 ?_ (x := lD [val _] au)
 refine dA 0 ?_ (x := lF lW)
 refine dA 4 ?_ (x := lD [val _] au)
 refine dA 0 ?_ (x := b9 (qs := []) (by decide) bC ej (by decide) rfl rfl rfl rfl rfl (by exact nl rfl) (by exact tI) rfl)
 refine dA 0 ?_ (x := lF kU)
 refine dA 32 ?_ (x := lD [sl .v _] bq)
 refine dA 112 ?_ (x := il (by decide) bC ej rfl rfl (by decide) (by first | (intro cs hcs; obtain ⟨x, _, rfl⟩ := List.mem_map.1 hcs; exact rfl) | simp) (by first | (intro cs hcs; obtain ⟨x, _, rfl⟩ := List.mem_map.1 hcs; exact (ao.cons (bor_val _) ao.nil)) | simp) (by simp only [ar, aU, List.length_cons, List.length_nil]; omega) (by simp only [ar, aU, List.length_cons, List.length_nil]; omega))
 refine dA 0 ?_ (x := b9 (qs := []) (by decide) bC ej (by decide) rfl rfl rfl rfl rfl (by exact nl rfl) (by exact tI) rfl)
 refine dA 0 ?_ (x := lF jx)
 refine Gv ?_
 refine dA 0 ?_ (x := b9 (qs := []) (by decide) bC ej (by decide) rfl rfl rfl rfl rfl (by exact nl rfl) (by exact tI) rfl)
 refine dA 0 ?_ (x := lF iA)
 refine dA 8192 ?_ (x := lD [sl .v _] bq)
 refine dA 32752 ?_ (x := il (by decide) bC ej rfl rfl (by decide) (by first | (intro cs hcs; obtain ⟨x, _, rfl⟩ := List.mem_map.1 hcs; exact rfl) | simp) (by first | (intro cs hcs; obtain ⟨x, _, rfl⟩ := List.mem_map.1 hcs; exact (ao.cons (bor_val _) ao.nil)) | simp) (by simp only [ar, aU, List.length_cons, List.length_nil]; omega) (by simp only [ar, aU, List.length_cons, List.length_nil]; omega))
 refine dA 65535 ?_ (x := eV (qs := [(false, [val _]), (false, [val _]), (false, [sl _ _]), (false, [sl _ _]), (false, [sl _ _])]) (cs := [val _, val _, sl _ _, sl _ _, sl _ _]) (by decide) iC oq Uj (by exact rfl) (by exact (aI (by exact tI) (aI (by exact tI) (aI (by exact tI) (aI (by exact tI) (aI (by exact tI) tI)))))) rfl (by exact rfl))
 refine dA 131071 ?_ (x := bd (ag := true) (vs := [val _, val _, sl _ _, sl _ _, sl _ _]) i8 (by exact tI) (by exact rfl) (by exact nl rfl))
 exact Dp
def Um {p4 : Fl} {x : Ws}  (hb : bW x ≤ 68719476736) : aC prog 145 [(true, [val (vI x.Wt.Id), val (vI x.Wt.Wx), sl .v (x.Wt.Wu.map bf), sl .v (x.Wt.Out.map ak), val (vI x.Time), sl .v (x.WB.map ak), val (vI x.Age), val (vI x.Sent), val (vI x.Cap), sl .v (x.Rows.map (bu p4))])] (az [(true, [val (vI x.Wt.Id), val (vI x.Wt.Wx), sl ay (x.Wt.Wu.map bf), sl aa (x.Wt.Out.map ak), val (vI x.Time), sl aa (x.WB.map ak), val (vI x.Age), val (vI x.Sent), val (vI x.Cap), sl aB (x.Rows.map (bu aa))])]) := by
 refine sF func145 fun h0 w0 Fz0 => ?_
 refine sn 0 2 fun hl0_2 => ?_
 refine sn 0 3 fun hl0_3 => ?_
 refine sn 0 5 fun hl0_5 => ?_
 refine sn 0 9 fun hl0_9 => ?_
 have hbu := hb
 simp only [bW, dM, a9] at hbu
 refine sr ?_
 refine rX ?_ (x := (bR (by decide) fa l2))
 refine aP ?_
 refine lC ?_
 refine dA 0 ?_ (x := lF eR)
 refine Hi ?_
 refine dA 0 ?_ (x := lF gD)
 refine If ?_
 refine dA 0 ?_ (x := lF jq)
 refine dA 64 ?_ (x := lD [sl .v _] fI)
 refine dA 255 ?_ (x := cL [(false, [sl _ _])] [(false, [sl .v _])] KL (hs := by exact La (by omega)))
 refine dA 223 ?_ (x := lF eR)
 refine dA 1023 ?_ (x := bd (ag := true) (vs := [val _, val _, sl _ _, sl _ _]) eK (by exact tI) (by exact rfl) (by exact nl rfl))
 refine dA 2047 ?_ (x := lF gD)
 refine dA 4095 ?_ (x := bd (ag := false) (vs := [sl _ _]) bq (by exact tI) (by exact rfl) (by exact nl rfl))
 refine dA 8191 ?_ (x := lF jq)
 refine dA 16383 ?_ (x := bd (ag := false) (vs := [sl _ _]) fI (by exact tI) (by exact rfl) (by exact nl rfl))
 refine aP ?_
 refine sO [(1, _), (2, _)] [(1, (108, [val _, val _, sl _ _, sl _ _, val _, sl _ _, val _, val _, val _, sl _ _])), (2, _)] ?_
 exact Dt
def Un {p3 : Fl} {x : cu}  (hb : d9 x ≤ 68719476736) : aC prog 146 [(true, [val (vI x.Wt.Id), val (vI x.Wt.Wx), sl .v (x.Wt.Wu.map bf), sl .v (x.Wt.Out.map ak), val (vI x.Time), val (vI x.Steps), sl .v (x.Rows.map (bu p3))])] (az [(true, [val (vI x.Wt.Id), val (vI x.Wt.Wx), sl ay (x.Wt.Wu.map bf), sl aa (x.Wt.Out.map ak), val (vI x.Time), val (vI x.Steps), sl aB (x.Rows.map (bu aa))])]) := by
 refine sF func146 fun h0 w0 Fz0 => ?_
 refine sn 0 2 fun hl0_2 => ?_
 refine sn 0 3 fun hl0_3 => ?_
 refine sn 0 6 fun hl0_6 => ?_
 have hbu := hb
 simp only [d9, a9] at hbu
 refine uV ?_
 refine rX ?_ (x := (bR (by decide) jS pQ))
 refine aP ?_
 refine lC ?_
 refine dA 0 ?_ (x := lF lU)
 refine Hi ?_
 refine dA 0 ?_ (x := lF lV)
 refine dA 8 ?_ (x := lD [sl .v _] fI)
 refine dA 31 ?_ (x := cL [(false, [sl _ _])] [(false, [sl .v _])] KL (hs := by exact La (by omega)))
 refine dA 31 ?_ (x := lF lU)
 refine dA 127 ?_ (x := bd (ag := true) (vs := [val _, val _, sl _ _, sl _ _]) eK (by exact tI) (by exact rfl) (by exact nl rfl))
 refine dA 255 ?_ (x := lF lV)
 refine dA 511 ?_ (x := bd (ag := false) (vs := [sl _ _]) fI (by exact tI) (by exact rfl) (by exact nl rfl))
 refine aP ?_
 refine sO [(1, _), (2, _)] [(1, (63, [val _, val _, sl _ _, sl _ _, val _, val _, sl _ _])), (2, _)] ?_
 exact Du
def Uo {a : Int} {b : List Int} {c : Int} {d : Int}  (hb : b.length ≤ 68719476736) : aC prog 273 [(false, [val (vI a)]), (false, [sl .v (b.map ak)]), (false, [val (vI c)]), (false, [val (vI d)])] (az [(true, [val (vI (aT.mk a b c d).Id), sl aa ((aT.mk a b c d).Values.map ak), val (vI (aT.mk a b c d).WG), val (vI (aT.mk a b c d).WC)])]) := by
 refine sF func273 fun h0 w0 Fz0 => ?_
 refine sj 1 fun hl1 => ?_
 refine sR ?_
 refine rX ?_ (x := (bR (by decide) eT kh))
 refine sT [0, 1, 2, 3, 8] [8] ?_
 refine rM ?_
 refine In ?_
 refine j8 ?_
 refine rA ?_ (x := eV (qs := [(false, [val _]), (false, [sl _ _]), (false, [val _]), (false, [val _])]) (cs := [val _, sl _ _, val _, val _]) (by decide) eT kh Ll (by exact rfl) (by exact (aI (by exact tI) (aI (by exact tI) (aI (by exact tI) (aI (by exact tI) tI))))) rfl (by exact rfl))
 refine Ic ?_
 exact (bj 8 (bj _ (aI (by exact rfl) (aI (by exact rfl) (aI dO (aI (fun h => nomatch h) tI))))))
def Up {p1 : Fl} {x : List aT}  (hb : bU x ≤ 68719476736) : aC prog 232 [(false, [sl .v (x.map (cG p1))])] (az [(false, [sl aS (x.map (cG aa))])]) := by
 refine sF func232 fun h0 w0 Fz0 => ?_
 refine sj 0 fun hl0 => ?_
 have hbu := hb
 simp only [bU] at hbu
 refine IY ?_
 refine sS [0, 2] [] ?_
 refine qF ?_
 refine aP ?_
 refine vX ?_
 refine sL [0, 2] [] (fun k : Nat => k ≤ x.length) (fun k : Nat => [(3, RV.slc aS ((x.take k).map (cG aa))), (4, RV.int (k : Int))]) (fun k : Nat => []) (fun k : Nat => x.length - k) 0 (by omega) (by exact aI (by first | exact rfl | simp) (aI (by exact rfl) tI)) (by exact tI) ?_
 rintro k hk
 refine cQ ?_
 refine mA ?_
 refine sc (fun hba => ?_) (fun hba => ?_)
 have hlt : k < x.length := by omega
 have hwm := cR (f := bT) hlt
 have htl : (x.take k).length = k := by rw [bv]; omega
 have hwv : bT x[k] = x[k].Values.length := by simp only [bT, dM, a9]; omega
 refine bB ?_
 refine sP [0, 2, 3, 4] [] ?_
 refine db cJ ?_
 refine dA 0 ?_ (x := tM)
 refine eE ?_
 refine dA 6 ?_ (x := aY (by decide) ck (by exact tI) (by exact rfl) (by exact be (by omega) rfl) (by exact rfl))
 refine dA 14 ?_ (x := bE (by decide) lQ (by exact nl rfl))
 refine dA 30 ?_ (x := lE [val _] au)
 refine eE ?_
 refine dA 192 ?_ (x := aY (by decide) ck (by exact tI) (by exact rfl) (by exact be (by omega) rfl) (by exact rfl))
 refine dA 448 ?_ (x := bE (by decide) i2 (by exact nl rfl))
 refine dA 960 ?_ (x := lE [sl .v _] bq)
 refine eE ?_
 refine dA 6144 ?_ (x := aY (by decide) ck (by exact tI) (by exact rfl) (by exact be (by omega) rfl) (by exact rfl))
 refine dA 14336 ?_ (x := bE (by decide) i3 (by exact nl rfl))
 refine dA 30720 ?_ (x := lE [val _] au)
 refine eE ?_
 refine dA 196608 ?_ (x := aY (by decide) ck (by exact tI) (by exact rfl) (by exact be (by omega) rfl) (by exact rfl))
 refine dA 458752 ?_ (x := bE (by decide) fR (by exact nl rfl))
 refine dA 983040 ?_ (x := lE [val _] au)
 refine dA 2097150 ?_ (x := cL [(false, [val _]), (false, [sl _ _]), (false, [val _]), (false, [val _])] [(false, [val _]), (false, [sl .v _]), (false, [val _]), (false, [val _])] R5 (hs := by exact (Uo (by omega))))
 refine dA 4194302 ?_ (x := b9 (qs := [(true, [val _, sl _ _, val _, val _])]) (by decide) ck eT (by decide) rfl rfl rfl rfl rfl (by exact nl rfl) (by exact (aI (by exact tI) tI)) rfl)
 refine dA 8388607 ?_ (x := eC (by decide) ck eT rfl rfl (by decide) rfl (by simp only [ar, aU, List.length_cons, List.length_nil]; omega) (by simp only [ar, aU, List.length_cons, List.length_nil]; omega))
 refine dA 16777215 ?_ (x := tA)
 refine sG [0, 2, 3, 4] [] ?_
 exact xW
 exact xX
def Ln {p1 p2 : Fl} {s : Store}  (hb : b4 s ≤ 68719476736) : aC prog 143 [(true, [sl .v (s.Wr.map (aD p1 p2)), val (vI s.Now)])] (az [(true, [sl bo (s.Wr.map (aD aS aa)), val (vI s.Now)])]) := by
 refine sF func143 fun h0 w0 Fz0 => ?_
 refine sn 0 0 fun hl0_0 => ?_
 have hbu := hb
 simp only [b4, eh, a9] at hbu
 refine iU ?_
 refine zB ?_
 refine rA ?_ (x := lF fi)
 refine Hj ?_
 refine mu ?_
 refine eO ?_
 refine sE ?_
 refine kC ?_
 refine dI ?_
 refine sP [1, 2, 3, 13, 14, 15] [1, 2, 3] ?_
 refine sL [1, 2, 3, 13, 14] [1, 2] (fun k : Nat => k ≤ s.Wr.length) (fun k : Nat => [(15, RV.int (k : Int))]) (fun k : Nat => [(3, (26, [sl bo ((s.Wr.take k).map (aD aS aa)), val (vI s.Now)]))]) (fun k : Nat => s.Wr.length - k) 0 (by omega) (by exact aI (by exact rfl) tI) (by exact aI (by exact rfl) tI) ?_
 rintro k hk
 refine ct ?_
 refine sc (fun hba => ?_) (fun hba => ?_)
 have hlt : k < s.Wr.length := by omega
 have hwm := cR (f := bU) hlt
 have hws : bU s.Wr[k] = s.Wr[k].length + (s.Wr[k].map bT).sum := rfl
 have htl : (s.Wr.take k).length = k := by rw [bv]; omega
 refine bB ?_
 refine sT [1, 2, 3, 13, 14, 15] [1, 2, 3] ?_
 refine Aj ?_
 refine sS [1, 2, 3, 5, 13, 14, 15] [1, 2, 3] ?_
 refine qF ?_
 refine aP ?_
 refine sS [1, 2, 3, 5, 6, 13, 14, 15] [1, 2, 3] ?_
 refine rk ?_
 refine sP [1, 2, 3, 5, 6, 13, 14, 15, 20, 21, 22] [1, 2, 3] ?_
 refine sL [1, 2, 3, 5, 13, 14, 15, 20, 21] [1, 2, 3] (fun j : Nat => j ≤ s.Wr[k].length) (fun j : Nat => [(6, RV.slc aS ((s.Wr[k].take j).map (cG aa))), (22, RV.int (j : Int))]) (fun j : Nat => []) (fun j : Nat => s.Wr[k].length - j) 0 (by omega) (by exact aI (by exact rfl) (aI (by exact rfl) tI)) (by exact tI) ?_
 rintro j hj
 refine ct ?_
 refine sc (fun hbb => ?_) (fun hbb => ?_)
 have hlt2 : j < s.Wr[k].length := by omega
 have hwm2 := cR (f := bT) hlt2
 have hwv : bT s.Wr[k][j] = s.Wr[k][j].Values.length := by simp only [bT, dM, a9]; omega
 have htl2 : (s.Wr[k].take j).length = j := by rw [bv]; omega
 refine bB ?_
 refine sT [1, 2, 3, 5, 6, 13, 14, 15, 20, 21, 22] [1, 2, 3] ?_
 refine uM ?_
 refine sm ?_
 refine sO [(1, _), (2, _), (3, _), (5, _), (6, _), (8, _), (13, _), (14, _), (15, _), (20, _), (21, _), (22, _)] [(1, _), (2, _), (3, _), (8, (184, [val _, sl _ _, val _, val _]))] ?_
 refine db cJ ?_
 refine dA 0 ?_ (x := tM)
 refine dA 0 ?_ (x := lF lQ)
 refine dA 2 ?_ (x := lD [val _] au)
 refine dA 0 ?_ (x := lF i2)
 refine dA 8 ?_ (x := lD [sl .v _] bq)
 refine dA 24 ?_ (x := cL [(false, [sl _ _])] [(false, [sl .v _])] mO (hs := by exact m8 (by omega)))
 refine dA 0 ?_ (x := lF i3)
 refine dA 64 ?_ (x := lD [val _] au)
 refine dA 0 ?_ (x := lF fR)
 refine dA 256 ?_ (x := lD [val _] au)
 refine dA 1022 ?_ (x := eV (qs := [(false, [val _]), (false, [sl _ _]), (false, [val _]), (false, [val _])]) (cs := [val _, sl _ _, val _, val _]) (by decide) eT kh Ll (by exact rfl) (by exact (aI (by exact tI) (aI (by exact tI) (aI (by exact tI) (aI (by exact tI) tI))))) rfl (by exact rfl))
 refine dA 2046 ?_ (x := b9 (qs := [(true, [val _, sl _ _, val _, val _])]) (by decide) ck eT (by decide) rfl rfl rfl rfl rfl (by exact nl rfl) (by exact (aI (by exact tI) tI)) rfl)
 refine dA 4095 ?_ (x := eC (by decide) ck eT rfl rfl (by decide) rfl (by simp only [ar, aU, List.length_cons, List.length_nil]; omega) (by simp only [ar, aU, List.length_cons, List.length_nil]; omega))
 refine dA 8191 ?_ (x := tA)
 refine sG [1, 2, 3, 5, 6, 8, 13, 14, 15, 20, 21, 22] [1, 2, 3, 8] ?_
 refine c0 ?_
 refine nx (j + 1) (by omega) (e := (by exact aI (by exact cr (by rw [ti hlt2, bN]; exact rfl)) (aI (by exact rfl) tI)))
 have hend2 : j = s.Wr[k].length := by omega
 refine bF ?_
 refine sH [1, 2, 3, 5, 6, 13, 14, 15, 20, 21, 22] [1, 2, 3] ?_
 refine rA ?_ (x := lF jr)
 refine rA ?_ (x := cl (ms := [sl _ _]) (qs := [sl .v _]) (by decide) jy (fun _ => rfl) (by exact nl rfl) (by exact rfl) (by exact (aF am.nil)) (by exact (ao.cons (bor_sl _) ao.nil)))
 refine rA ?_ (x := tM)
 refine rA ?_ (x := b9 (qs := [(false, [sl _ _])]) (by decide) cV tt (by decide) rfl rfl rfl rfl rfl (by exact nl rfl) (by exact (aI (by exact tI) tI)) rfl)
 refine rA ?_ (x := eC (by decide) cV tt rfl rfl (by decide) rfl (by simp only [ar, aU, List.length_cons, List.length_nil]; omega) (by simp only [ar, aU, List.length_cons, List.length_nil]; omega))
 refine Ir ?_
 refine sO [(1, _), (2, _), (3, _), (5, _), (13, _), (14, _), (15, _), (20, _), (21, _), (22, _)] [(1, _), (2, _), (3, (26, [sl _ _, val _]))] ?_
 refine ba ?_
 refine c0 ?_
 refine nx (k + 1) (by omega) (f := (by exact aI (by rw [hend2, cb, ti hlt]; simp only [bN]; exact rfl) tI))
 have hend : k = s.Wr.length := by omega
 refine bF ?_
 refine sT [1, 2, 3, 13, 14, 15] [1, 2, 3] ?_
 exact EH
def Lo {p1 p2 : Fl} {s : Store}  (hb : b4 s ≤ 68719476736) : aC prog 155 [(true, [sl .v (s.Wr.map (aD p1 p2)), val (vI s.Now)])] (az [(true, [sl bo (s.Wr.map (aD aS aa)), val (vI s.Now)])]) := by
 refine sF func155 fun h0 w0 Fz0 => ?_
 refine sn 0 0 fun hl0_0 => ?_
 have hbu := hb
 simp only [b4, eh, a9] at hbu
 refine iU ?_
 refine zB ?_
 refine rA ?_ (x := lF fi)
 refine Hj ?_
 refine mu ?_
 refine eO ?_
 refine sE ?_
 refine cz ?_
 refine sP [1, 2, 3, 4] [1, 2, 3] ?_
 refine sL [1, 2, 3] [1, 2] (fun k : Nat => k ≤ s.Wr.length) (fun k : Nat => [(4, RV.int (k : Int))]) (fun k : Nat => [(3, (26, [sl bo ((s.Wr.take k).map (aD aS aa)), val (vI s.Now)]))]) (fun k : Nat => s.Wr.length - k) 0 (by omega) (by exact aI (by exact rfl) tI) (by exact aI (by exact rfl) tI) ?_
 rintro k hk
 refine d6 ?_
 refine qY ?_
 refine sc (fun hba => ?_) (fun hba => ?_)
 have hlt : k < s.Wr.length := by omega
 have hwm := cR (f := bU) hlt
 have hws : bU s.Wr[k] = s.Wr[k].length + (s.Wr[k].map bT).sum := rfl
 have htl : (s.Wr.take k).length = k := by rw [bv]; omega
 refine bB ?_
 refine sQ [1, 2, 3, 4] [1, 2, 3] ?_
 refine db cJ ?_
 refine dA 0 ?_ (x := lF jr)
 refine dA 1 ?_ (x := cl (ms := [sl _ _]) (qs := [sl .v _]) (by decide) jy (fun _ => rfl) (by exact nl rfl) (by exact rfl) (by exact (aF am.nil)) (by exact (ao.cons (bor_sl _) ao.nil)))
 refine dA 0 ?_ (x := lF jr)
 refine dA 4 ?_ (x := lD [sl .v _] jy)
 refine dA 0 ?_ (x := sM)
 refine dA 28 ?_ (x := aY (by decide) cV (by exact tI) (by exact rfl) (by exact be (by omega) rfl) (by exact rfl))
 refine dA 60 ?_ (x := lE [sl .v _] fH)
 refine dA 124 ?_ (x := cL [(false, [sl _ _])] [(false, [sl .v _])] RP (hs := by exact (Up (by omega))))
 refine dA 252 ?_ (x := b9 (qs := [(false, [sl _ _])]) (by decide) cV tt (by decide) rfl rfl rfl rfl rfl (by exact nl rfl) (by exact (aI (by exact tI) tI)) rfl)
 refine dA 511 ?_ (x := eC (by decide) cV tt rfl rfl (by decide) rfl (by simp only [ar, aU, List.length_cons, List.length_nil]; omega) (by simp only [ar, aU, List.length_cons, List.length_nil]; omega))
 refine dA 1023 ?_ (x := lF jr)
 refine dA 2047 ?_ (x := bd (ag := false) (vs := [sl _ _]) jy (by exact tI) (by exact rfl) (by exact nl rfl))
 refine sO [(1, _), (2, _), (3, _), (4, _)] [(1, _), (2, _), (3, (26, [sl _ _, val _]))] ?_
 exact uq
 have hend : k = s.Wr.length := by omega
 refine bF ?_
 refine sT [1, 2, 3, 4] [1, 2, 3] ?_
 exact EH
def Lp {p1 p2 p5 p6 p7 p8 p9 p11 p12 p13 p14 p16 p17 p18 : Fl} {e : aL}  (hb : bp e ≤ 68719476736) : aC prog 53 [(true, [sl .v (e.Store.Wr.map (aD p1 p2)), val (vI e.Store.Now), val (vI e.Ww), sl .v (e.Order.map ak), sl .v (e.Ws.map (aO p5 p6 p7 p8 p9)), sl .v (e.Done.map (aZ p11 p12 p13 p14)), sl .v (e.WE.map (a7 p16 p17 p18)), val (vI e.Steps)])] (az [(true, [sl bo (e.Store.Wr.map (aD aS aa)), val (vI e.Store.Now), val (vI e.Ww), sl aa (e.Order.map ak), sl bS (e.Ws.map (aO ay aa aa aB aa)), sl bM (e.Done.map (aZ ay aa aB aa)), sl bP (e.WE.map (a7 aa aa aa)), val (vI e.Steps)])]) := by
 refine sF func53 fun h0 w0 Fz0 => ?_
 refine sn 0 0 fun hl0_0 => ?_
 refine sn 0 3 fun hl0_3 => ?_
 refine sn 0 4 fun hl0_4 => ?_
 refine sn 0 5 fun hl0_5 => ?_
 refine sn 0 6 fun hl0_6 => ?_
 have hbu := hb
 simp only [bp, c6, dK, dJ, dM, a9] at hbu
 refine qK ?_
 refine aP ?_
 refine lC ?_
 refine zD ?_
 refine dA 3 ?_ (x := cL [(true, [sl _ _, val _])] [(true, [sl .v _, val _])] KG (hs := by exact (Ln (by omega))))
 refine dA 0 ?_ (x := lF i4)
 refine dA 8 ?_ (x := lD [val _] au)
 refine dA 0 ?_ (x := lF lR)
 refine dA 32 ?_ (x := lD [sl .v _] bq)
 refine dA 103 ?_ (x := cL [(false, [sl _ _])] [(false, [sl .v _])] mO (hs := by exact m8 (by omega)))
 refine dA 0 ?_ (x := lF ju)
 refine dA 256 ?_ (x := lD [val _] au)
 refine dA 1023 ?_ (x := eV (qs := [(true, [sl _ _, val _]), (false, [val _]), (false, [sl _ _]), (false, [val _])]) (cs := [sl _ _, val _, val _, sl _ _, sl _ _, sl _ _, sl _ _, val _]) (by decide) jR jT Lm (by exact rfl) (by exact (aI (by exact tI) (aI (by exact tI) (aI (by exact tI) (aI (by exact tI) tI))))) rfl (by exact rfl))
 refine bY.step 0 (by exact tI) (by exact tI) (ax.of rfl (bR (by decide) jR jT)) (nf (cD.of_ rfl)) (by kernel_rfl) ?_
 refine dA 4095 ?_ (x := bd (ag := true) (vs := [sl _ _, val _, val _, sl _ _, sl _ _, sl _ _, sl _ _, val _]) bZ (by exact tI) (by exact rfl) (by exact nl rfl))
 refine eO ?_
 refine mx ?_
 refine oe ?_
 refine sP [1, 2, 3, 22, 23, 24] [1, 2, 3] ?_
 refine sL [1, 2, 3, 22, 23] [1, 2] (fun k : Nat => k ≤ e.Ws.length) (fun k : Nat => [(24, RV.int (k : Int))]) (fun k : Nat => [(3, (32, [sl bo (e.Store.Wr.map (aD aS aa)), val (vI e.Store.Now), val (vI e.Ww), sl aa (e.Order.map ak), sl bS ((e.Ws.take k).map (aO ay aa aa aB aa)), sl bM (([] : List cu).map (aZ ay aa aB aa)), sl bP (([] : List cE).map (a7 aa aa aa)), val (vI e.Steps)]))]) (fun k : Nat => e.Ws.length - k) 0 (by omega) (by exact aI (by exact rfl) tI) (by exact aI (by exact rfl) tI) ?_
 rintro k hk
 refine ct ?_
 refine sc (fun hba => ?_) (fun hba => ?_)
 have hlt : k < e.Ws.length := by omega
 have hwm := cR (f := bW) hlt
 have hwu : bW e.Ws[k] = ce e.Ws[k].Wt + e.Ws[k].WB.length + dl e.Ws[k].Rows := by simp only [bW, dM, a9]; omega
 have htl : (e.Ws.take k).length = k := by rw [bv]; omega
 refine bB ?_
 refine sT [1, 2, 3, 22, 23, 24] [1, 2, 3] ?_
 refine qB ?_
 refine qA ?_
 refine sO [(1, _), (2, _), (3, _), (5, _), (22, _), (23, _), (24, _)] [(1, _), (2, _), (3, _), (5, (108, [val _, val _, sl _ _, sl _ _, val _, sl _ _, val _, val _, val _, sl _ _]))] ?_
 refine db cJ ?_
 refine GZ ?_
 refine dA 0 ?_ (x := lD [val _, val _, sl .v _, sl .v _, val _, sl .v _, val _, val _, val _, sl .v _] fj)
 refine dA 4 ?_ (x := cL [(true, [val _, val _, sl _ _, sl _ _, val _, sl _ _, val _, val _, val _, sl _ _])] [(true, [val _, val _, sl .v _, sl .v _, val _, sl .v _, val _, val _, val _, sl .v _])] Rs (hs := by exact (Um (by omega))))
 refine dA 12 ?_ (x := b9 (qs := [(true, [val _, val _, sl _ _, sl _ _, val _, sl _ _, val _, val _, val _, sl _ _])]) (by decide) bI fa (by decide) rfl rfl rfl rfl rfl (by exact nl rfl) (by exact (aI (by exact tI) tI)) rfl)
 refine dA 31 ?_ (x := eC (by decide) bI fa rfl rfl (by decide) rfl (by simp only [ar, aU, List.length_cons, List.length_nil]; omega) (by simp only [ar, aU, List.length_cons, List.length_nil]; omega))
 refine dA 63 ?_ (x := lF dN)
 refine dA 127 ?_ (x := bd (ag := false) (vs := [sl _ _]) dC (by exact tI) (by exact rfl) (by exact nl rfl))
 refine sO [(1, _), (2, _), (3, _), (5, _), (22, _), (23, _), (24, _)] [(1, _), (2, _), (3, (32, [sl _ _, val _, val _, sl _ _, sl _ _, sl _ _, sl _ _, val _])), (5, _)] ?_
 exact ye
 have hend0 : k = e.Ws.length := by omega
 refine gV ?_
 refine sT [1, 2, 3, 22, 23, 24] [1, 2, 3] ?_
 refine my ?_
 refine rA ?_ (x := lN ez)
 refine dI ?_
 refine sP [1, 2, 3, 22, 23, 24, 37, 38, 39] [1, 2, 3] ?_
 refine sL [1, 2, 3, 22, 23, 24, 37, 38] [1, 2] (fun k : Nat => k ≤ e.Done.length) (fun k : Nat => [(39, RV.int (k : Int))]) (fun k : Nat => [(3, (32, [sl bo (e.Store.Wr.map (aD aS aa)), val (vI e.Store.Now), val (vI e.Ww), sl aa (e.Order.map ak), sl bS (e.Ws.map (aO ay aa aa aB aa)), sl bM ((e.Done.take k).map (aZ ay aa aB aa)), sl bP (([] : List cE).map (a7 aa aa aa)), val (vI e.Steps)]))]) (fun k : Nat => e.Done.length - k) 0 (by omega) (by exact aI (by exact rfl) tI) (by exact aI (by rw [hend0, cb]; exact rfl) tI) ?_
 rintro k hk
 refine ct ?_
 refine sc (fun hbb => ?_) (fun hbb => ?_)
 have hlt : k < e.Done.length := by omega
 have hwm := cR (f := d9) hlt
 have hwu : d9 e.Done[k] = ce e.Done[k].Wt + dl e.Done[k].Rows := by simp only [d9, a9]; omega
 have htl : (e.Done.take k).length = k := by rw [bv]; omega
 refine bB ?_
 refine sT [1, 2, 3, 22, 23, 24, 37, 38, 39] [1, 2, 3] ?_
 refine uJ ?_
 refine uI ?_
 refine sO [(1, _), (2, _), (3, _), (7, _), (22, _), (23, _), (24, _), (37, _), (38, _), (39, _)] [(1, _), (2, _), (3, _), (7, (63, [val _, val _, sl _ _, sl _ _, val _, val _, sl _ _]))] ?_
 refine db cJ ?_
 refine dA 0 ?_ (x := lF kd)
 refine dA 1 ?_ (x := cl (ms := [sl _ _]) (qs := [sl .v _]) (by decide) kf (fun _ => rfl) (by exact nl rfl) (by exact rfl) (by exact (aF am.nil)) (by exact (ao.cons (bor_sl _) ao.nil)))
 refine dA 0 ?_ (x := lD [val _, val _, sl .v _, sl .v _, val _, val _, sl .v _] lY)
 refine dA 4 ?_ (x := cL [(true, [val _, val _, sl _ _, sl _ _, val _, val _, sl _ _])] [(true, [val _, val _, sl .v _, sl .v _, val _, val _, sl .v _])] Rt (hs := by exact (Un (by omega))))
 refine dA 12 ?_ (x := b9 (qs := [(true, [val _, val _, sl _ _, sl _ _, val _, val _, sl _ _])]) (by decide) ez jS (by decide) rfl rfl rfl rfl rfl (by exact nl rfl) (by exact (aI (by exact tI) tI)) rfl)
 refine dA 31 ?_ (x := eC (by decide) ez jS rfl rfl (by decide) rfl (by simp only [ar, aU, List.length_cons, List.length_nil]; omega) (by simp only [ar, aU, List.length_cons, List.length_nil]; omega))
 refine dA 63 ?_ (x := lF kd)
 refine dA 127 ?_ (x := bd (ag := false) (vs := [sl _ _]) kf (by exact tI) (by exact rfl) (by exact nl rfl))
 refine sO [(1, _), (2, _), (3, _), (7, _), (22, _), (23, _), (24, _), (37, _), (38, _), (39, _)] [(1, _), (2, _), (3, (32, [sl _ _, val _, val _, sl _ _, sl _ _, sl _ _, sl _ _, val _])), (7, _)] ?_
 exact ye
 have hend1 : k = e.Done.length := by omega
 refine gV ?_
 refine sT [1, 2, 3, 22, 23, 24, 37, 38, 39] [1, 2, 3] ?_
 refine nM ?_
 refine rA ?_ (x := lN dY)
 refine dI ?_
 refine sP [1, 2, 3, 22, 23, 24, 37, 38, 39, 52, 53, 54] [1, 2, 3] ?_
 refine sL [1, 2, 3, 22, 23, 24, 37, 38, 39, 52, 53] [1, 2] (fun k : Nat => k ≤ e.WE.length) (fun k : Nat => [(54, RV.int (k : Int))]) (fun k : Nat => [(3, (32, [sl bo (e.Store.Wr.map (aD aS aa)), val (vI e.Store.Now), val (vI e.Ww), sl aa (e.Order.map ak), sl bS (e.Ws.map (aO ay aa aa aB aa)), sl bM (e.Done.map (aZ ay aa aB aa)), sl bP ((e.WE.take k).map (a7 aa aa aa)), val (vI e.Steps)]))]) (fun k : Nat => e.WE.length - k) 0 (by omega) (by exact aI (by exact rfl) tI) (by exact aI (by rw [hend1, cb]; exact rfl) tI) ?_
 rintro k hk
 refine ct ?_
 refine sc (fun hbc => ?_) (fun hbc => ?_)
 have hlt : k < e.WE.length := by omega
 have hwm := cR (f := eG) hlt
 skip
 have htl : (e.WE.take k).length = k := by rw [bv]; omega
 refine bB ?_
 refine sT [1, 2, 3, 22, 23, 24, 37, 38, 39, 52, 53, 54] [1, 2, 3] ?_
 refine yR ?_
 refine yQ ?_
 refine sO [(1, _), (2, _), (3, _), (9, _), (22, _), (23, _), (24, _), (37, _), (38, _), (39, _), (52, _), (53, _), (54, _)] [(1, _), (2, _), (3, _), (9, (70, [val _, val _, sl _ _, sl _ _, sl _ _]))] ?_
 refine db cJ ?_
 refine G0 ?_
 refine dA 0 ?_ (x := lD [val _, val _, sl .v _, sl .v _, sl .v _] i8)
 refine dA 4 ?_ (x := cL [(true, [val _, val _, sl _ _, sl _ _, sl _ _])] [(true, [val _, val _, sl .v _, sl .v _, sl .v _])] Ru (hs := by exact (Uk (by omega))))
 refine dA 12 ?_ (x := b9 (qs := [(true, [val _, val _, sl _ _, sl _ _, sl _ _])]) (by decide) dY iC (by decide) rfl rfl rfl rfl rfl (by exact nl rfl) (by exact (aI (by exact tI) tI)) rfl)
 refine dA 31 ?_ (x := eC (by decide) dY iC rfl rfl (by decide) rfl (by simp only [ar, aU, List.length_cons, List.length_nil]; omega) (by simp only [ar, aU, List.length_cons, List.length_nil]; omega))
 refine dA 63 ?_ (x := lF jt)
 refine dA 127 ?_ (x := bd (ag := false) (vs := [sl _ _]) jz (by exact tI) (by exact rfl) (by exact nl rfl))
 refine sO [(1, _), (2, _), (3, _), (9, _), (22, _), (23, _), (24, _), (37, _), (38, _), (39, _), (52, _), (53, _), (54, _)] [(1, _), (2, _), (3, (32, [sl _ _, val _, val _, sl _ _, sl _ _, sl _ _, sl _ _, val _])), (9, _)] ?_
 exact ye
 have hend2 : k = e.WE.length := by omega
 refine bF ?_
 refine sT [1, 2, 3, 22, 23, 24, 37, 38, 39, 52, 53, 54] [1, 2, 3] ?_
 exact EJ
def Lq {p1 p2 p5 p6 p7 p8 p9 p11 p12 p13 p14 p16 p17 p18 : Fl} {e : aL}  (hb : bp e ≤ 68719476736) : aC prog 60 [(true, [sl .v (e.Store.Wr.map (aD p1 p2)), val (vI e.Store.Now), val (vI e.Ww), sl .v (e.Order.map ak), sl .v (e.Ws.map (aO p5 p6 p7 p8 p9)), sl .v (e.Done.map (aZ p11 p12 p13 p14)), sl .v (e.WE.map (a7 p16 p17 p18)), val (vI e.Steps)])] (az [(true, [sl bo (e.Store.Wr.map (aD aS aa)), val (vI e.Store.Now), val (vI e.Ww), sl aa (e.Order.map ak), sl bS (e.Ws.map (aO ay aa aa aB aa)), sl bM (e.Done.map (aZ ay aa aB aa)), sl bP (e.WE.map (a7 aa aa aa)), val (vI e.Steps)])]) := by
 refine sF func60 fun h0 w0 Fz0 => ?_
 refine sn 0 0 fun hl0_0 => ?_
 refine sn 0 3 fun hl0_3 => ?_
 refine sn 0 4 fun hl0_4 => ?_
 refine sn 0 5 fun hl0_5 => ?_
 refine sn 0 6 fun hl0_6 => ?_
 have hbu := hb
 simp only [bp, c6, dK, dJ, dM, a9] at hbu
 refine qK ?_
 refine aP ?_
 refine lC ?_
 refine zD ?_
 refine dA 3 ?_ (x := cL [(true, [sl _ _, val _])] [(true, [sl .v _, val _])] KI (hs := by exact (Lo (by omega))))
 refine dA 0 ?_ (x := lF i4)
 refine dA 8 ?_ (x := lD [val _] au)
 refine dA 0 ?_ (x := b9 (qs := []) (by decide) bC ej (by decide) rfl rfl rfl rfl rfl (by exact nl rfl) (by exact tI) rfl)
 refine dA 0 ?_ (x := lF lR)
 refine dA 64 ?_ (x := lD [sl .v _] bq)
 refine dA 231 ?_ (x := il (by decide) bC ej rfl rfl (by decide) (by first | (intro cs hcs; obtain ⟨x, _, rfl⟩ := List.mem_map.1 hcs; exact rfl) | simp) (by first | (intro cs hcs; obtain ⟨x, _, rfl⟩ := List.mem_map.1 hcs; exact (ao.cons (bor_val _) ao.nil)) | simp) (by simp only [ar, aU, List.length_cons, List.length_nil]; omega) (by simp only [ar, aU, List.length_cons, List.length_nil]; omega))
 refine dA 0 ?_ (x := lF ju)
 refine dA 512 ?_ (x := lD [val _] au)
 refine dA 2047 ?_ (x := eV (qs := [(true, [sl _ _, val _]), (false, [val _]), (false, [sl _ _]), (false, [val _])]) (cs := [sl _ _, val _, val _, sl _ _, sl _ _, sl _ _, sl _ _, val _]) (by decide) jR jT Lm (by exact rfl) (by exact (aI (by exact tI) (aI (by exact tI) (aI (by exact tI) (aI (by exact tI) tI))))) rfl (by exact rfl))
 refine bY.step 0 (by exact tI) (by exact tI) (ax.of rfl (bR (by decide) jR jT)) (nf (cD.of_ rfl)) (by kernel_rfl) ?_
 refine dA 8191 ?_ (x := bd (ag := true) (vs := [sl _ _, val _, val _, sl _ _, sl _ _, sl _ _, sl _ _, val _]) bZ (by exact tI) (by exact rfl) (by exact nl rfl))
 refine eO ?_
 refine mx ?_
 refine cz ?_
 refine sP [1, 2, 3, 4] [1, 2, 3] ?_
 refine sL [1, 2, 3] [1, 2] (fun k : Nat => k ≤ e.Ws.length) (fun k : Nat => [(4, RV.int (k : Int))]) (fun k : Nat => [(3, (32, [sl bo (e.Store.Wr.map (aD aS aa)), val (vI e.Store.Now), val (vI e.Ww), sl aa (e.Order.map ak), sl bS ((e.Ws.take k).map (aO ay aa aa aB aa)), sl bM (([] : List cu).map (aZ ay aa aB aa)), sl bP (([] : List cE).map (a7 aa aa aa)), val (vI e.Steps)]))]) (fun k : Nat => e.Ws.length - k) 0 (by omega) (by exact aI (by exact rfl) tI) (by exact aI (by exact rfl) tI) ?_
 rintro k hk
 refine d6 ?_
 refine pp ?_
 refine sc (fun hba => ?_) (fun hba => ?_)
 have hlt : k < e.Ws.length := by omega
 have hwm := cR (f := bW) hlt
 have hwu : bW e.Ws[k] = ce e.Ws[k].Wt + e.Ws[k].WB.length + dl e.Ws[k].Rows := by simp only [bW, dM, a9]; omega
 have htl : (e.Ws.take k).length = k := by rw [bv]; omega
 refine bB ?_
 refine sT [1, 2, 3, 4] [1, 2, 3] ?_
 refine ji ?_
 refine rM ?_
 refine qB ?_
 refine qA ?_
 refine aP ?_
 refine uO ?_
 refine sI ?_
 refine rA ?_ (x := cL [(true, [val _, val _, sl _ _, sl _ _])] [(true, [val _, val _, sl .v _, sl .v _])] ww (hs := by exact wE (by omega)))
 refine rA ?_ (x := lF eR)
 refine sw ?_
 refine uO ?_
 refine rA ?_ (x := b9 (qs := []) (by decide) bC ej (by decide) rfl rfl rfl rfl rfl (by exact nl rfl) (by exact tI) rfl)
 refine zO ?_
 refine rA ?_ (x := il (by decide) bC ej rfl rfl (by decide) (by first | (intro cs hcs; obtain ⟨x, _, rfl⟩ := List.mem_map.1 hcs; exact rfl) | simp) (by first | (intro cs hcs; obtain ⟨x, _, rfl⟩ := List.mem_map.1 hcs; exact (ao.cons (bor_val _) ao.nil)) | simp) (by simp only [ar, aU, List.length_cons, List.length_nil]; omega) (by simp only [ar, aU, List.length_cons, List.length_nil]; omega))
 refine rA ?_ (x := lF gD)
 refine jM ?_
 refine uO ?_
 refine rA ?_ (x := lF jq)
 refine It ?_
 refine zc ?_
 refine uO ?_
 refine yH ?_
 refine uA ?_
 refine yC ?_
 refine sO [(1, _), (2, _), (3, _), (4, _), (5, _)] [(1, _), (2, _), (3, (32, [sl _ _, val _, val _, sl _ _, sl _ _, sl _ _, sl _ _, val _])), (5, (108, [val _, val _, sl _ _, sl _ _, val _, sl _ _, val _, val _, val _, sl _ _]))] ?_
 exact uq
 have hend0 : k = e.Ws.length := by omega
 refine gV ?_
 refine sT [1, 2, 3, 4] [1, 2, 3] ?_
 refine cz ?_
 refine sP [1, 2, 3, 4, 6] [1, 2, 3] ?_
 refine sL [1, 2, 3, 4] [1, 2] (fun k : Nat => k ≤ e.Done.length) (fun k : Nat => [(6, RV.int (k : Int))]) (fun k : Nat => [(3, (32, [sl bo (e.Store.Wr.map (aD aS aa)), val (vI e.Store.Now), val (vI e.Ww), sl aa (e.Order.map ak), sl bS (e.Ws.map (aO ay aa aa aB aa)), sl bM ((e.Done.take k).map (aZ ay aa aB aa)), sl bP (([] : List cE).map (a7 aa aa aa)), val (vI e.Steps)]))]) (fun k : Nat => e.Done.length - k) 0 (by omega) (by exact aI (by exact rfl) tI) (by exact aI (by rw [hend0, cb]; exact rfl) tI) ?_
 rintro k hk
 refine d6 ?_
 refine my ?_
 refine vu ?_
 refine sc (fun hbb => ?_) (fun hbb => ?_)
 have hlt : k < e.Done.length := by omega
 have hwm := cR (f := d9) hlt
 have hwu : d9 e.Done[k] = ce e.Done[k].Wt + dl e.Done[k].Rows := by simp only [d9, a9]; omega
 have htl : (e.Done.take k).length = k := by rw [bv]; omega
 refine bB ?_
 refine sT [1, 2, 3, 4, 6] [1, 2, 3] ?_
 refine my ?_
 refine rM ?_
 refine uJ ?_
 refine uI ?_
 refine aP ?_
 refine yY ?_
 refine sJ ?_
 refine rA ?_ (x := cL [(true, [val _, val _, sl _ _, sl _ _])] [(true, [val _, val _, sl .v _, sl .v _])] ww (hs := by exact wE (by omega)))
 refine rA ?_ (x := lF lU)
 refine sw ?_
 refine yY ?_
 refine rA ?_ (x := lF lV)
 refine It ?_
 refine Iq ?_
 refine yY ?_
 refine G4 ?_
 refine rA ?_ (x := cl (ms := [val _, val _, sl _ _, sl _ _, val _, val _, sl _ _]) (qs := [val _, val _, sl .v _, sl .v _, val _, val _, sl .v _]) (by decide) lY (fun h => nomatch h) (by exact nl rfl) (by exact rfl) (by exact (an (an (aF (aF (an (an (aF am.nil)))))))) (by exact lq))
 refine Gy ?_
 refine zd ?_
 refine sO [(1, _), (2, _), (3, _), (4, _), (6, _), (7, _)] [(1, _), (2, _), (3, (32, [sl _ _, val _, val _, sl _ _, sl _ _, sl _ _, sl _ _, val _])), (7, (63, [val _, val _, sl _ _, sl _ _, val _, val _, sl _ _]))] ?_
 exact uq
 have hend1 : k = e.Done.length := by omega
 refine gV ?_
 refine sT [1, 2, 3, 4, 6] [1, 2, 3] ?_
 refine cz ?_
 refine sP [1, 2, 3, 4, 6, 8] [1, 2, 3] ?_
 refine sL [1, 2, 3, 4, 6] [1, 2] (fun k : Nat => k ≤ e.WE.length) (fun k : Nat => [(8, RV.int (k : Int))]) (fun k : Nat => [(3, (32, [sl bo (e.Store.Wr.map (aD aS aa)), val (vI e.Store.Now), val (vI e.Ww), sl aa (e.Order.map ak), sl bS (e.Ws.map (aO ay aa aa aB aa)), sl bM (e.Done.map (aZ ay aa aB aa)), sl bP ((e.WE.take k).map (a7 aa aa aa)), val (vI e.Steps)]))]) (fun k : Nat => e.WE.length - k) 0 (by omega) (by exact aI (by exact rfl) tI) (by exact aI (by rw [hend1, cb]; exact rfl) tI) ?_
 rintro k hk
 refine d6 ?_
 refine nM ?_
 refine vr ?_
 refine sc (fun hbc => ?_) (fun hbc => ?_)
 have hlt : k < e.WE.length := by omega
 have hwm := cR (f := eG) hlt
 skip
 have htl : (e.WE.take k).length = k := by rw [bv]; omega
 refine bB ?_
 refine sQ [1, 2, 3, 4, 6, 8] [1, 2, 3] ?_
 refine db cJ ?_
 refine G0 ?_
 refine dA 0 ?_ (x := lF jt)
 refine dA 4 ?_ (x := lD [sl .v _] jz)
 refine dA 0 ?_ (x := sM)
 refine dA 28 ?_ (x := aY (by decide) dY (by exact tI) (by exact rfl) (by exact be (by omega) rfl) (by exact rfl))
 refine dA 60 ?_ (x := lE [val _, val _, sl .v _, sl .v _, sl .v _] i8)
 refine dA 124 ?_ (x := cL [(true, [val _, val _, sl _ _, sl _ _, sl _ _])] [(true, [val _, val _, sl .v _, sl .v _, sl .v _])] RA (hs := by exact (Ul (by omega))))
 refine dA 252 ?_ (x := b9 (qs := [(true, [val _, val _, sl _ _, sl _ _, sl _ _])]) (by decide) dY iC (by decide) rfl rfl rfl rfl rfl (by exact nl rfl) (by exact (aI (by exact tI) tI)) rfl)
 refine dA 511 ?_ (x := eC (by decide) dY iC rfl rfl (by decide) rfl (by simp only [ar, aU, List.length_cons, List.length_nil]; omega) (by simp only [ar, aU, List.length_cons, List.length_nil]; omega))
 refine dA 1023 ?_ (x := lF jt)
 refine dA 2047 ?_ (x := bd (ag := false) (vs := [sl _ _]) jz (by exact tI) (by exact rfl) (by exact nl rfl))
 refine sO [(1, _), (2, _), (3, _), (4, _), (6, _), (8, _)] [(1, _), (2, _), (3, (32, [sl _ _, val _, val _, sl _ _, sl _ _, sl _ _, sl _ _, val _]))] ?_
 exact uq
 have hend2 : k = e.WE.length := by omega
 refine bF ?_
 refine sT [1, 2, 3, 4, 6, 8] [1, 2, 3] ?_
 exact EJ
end Go.Proofs.YtmekkgdboplbjaaGreat
