/- What functions of the program compute. No condition. -/
import Derived.Test.YtmekkgdboplbjaaGreatCS0
import Derived.Test.YtmekkgdboplbjaaGreatCT0
set_option linter.all false
namespace Go.Proofs.YtmekkgdboplbjaaGreat
open Go Go.RowKit M PV Tryz
set_option maxRecDepth 10000
attribute [local irreducible] PV.Lcl PV.LclR RV.Lcl
def TS : dY prog 184 = some [(0, 1), (1, 1), (2, 1), (3, 1)] := by kernel_rfl
def ac0 : dY prog 26 = some [(0, 1), (1, 1)] := by kernel_rfl
def TT : dY prog 32 = some [(0, 2), (2, 1), (3, 1), (4, 1), (5, 1), (6, 1), (7, 1)] := by kernel_rfl
def ac1 : dY prog 70 = some [(0, 1), (1, 1), (2, 1), (3, 1), (4, 1)] := by kernel_rfl
def ac2 {x : br}  (hb : ns x ≤ 68719476736) : aN prog 147 [(true, [val (vI x.Segment), val (vI x.Base), sl .v (x.Ids.map am), sl .v (x.aeF.map am), sl .v (x.Rows.map am)])] (aJ [(true, [val (vI x.Segment), val (vI x.Base), sl ab (x.Ids.map am), sl ab (x.aeF.map am), sl ab (x.Rows.map am)])]) := by
 refine sF func147 fun h0 w0 Fz0 => ?_
 refine sn 0 2 fun hl0_2 => ?_
 refine sn 0 3 fun hl0_3 => ?_
 refine sn 0 4 fun hl0_4 => ?_
 have hbu := hb
 simp only [ns, dE, bf] at hbu
 refine po ?_
 refine rX ?_ (x := (cr (by decide) kf rr))
 refine qT ?_
 refine dA 0 ?_ (x := lF lX)
 refine dA 1 ?_ (x := lD [sl .v _] bF)
 refine dA 3 ?_ (x := cL [(false, [sl _ _])] [(false, [sl .v _])] oD (hs := by exact oV (by omega)))
 refine dA 0 ?_ (x := lF lY)
 refine OW ?_
 refine dA 0 ?_ (x := lF kb)
 refine dA 64 ?_ (x := lD [sl .v _] bF)
 refine dA 255 ?_ (x := cL [(false, [sl _ _])] [(false, [sl .v _])] oD (hs := by exact oV (by omega)))
 refine dA 223 ?_ (x := lF lX)
 refine dA 1023 ?_ (x := bh (ag := false) (vs := [sl _ _]) bF (by exact tI) (by exact rfl) (by exact nl rfl))
 refine dA 2047 ?_ (x := lF lY)
 refine dA 4095 ?_ (x := bh (ag := false) (vs := [sl _ _]) bF (by exact tI) (by exact rfl) (by exact nl rfl))
 refine dA 8191 ?_ (x := lF kb)
 refine Pv ?_
 refine sO [(1, _), (2, _)] [(1, (70, [val _, val _, sl _ _, sl _ _, sl _ _])), (2, _)] ?_
 refine bd ?_
 refine rA ?_ (x := cP (ms := [val _, val _, sl _ _, sl _ _, sl _ _]) (qs := [val _, val _, sl .v _, sl .v _, sl .v _]) (by decide) iX (fun h => nomatch h) (by exact nl rfl) (by exact rfl) (by exact (ak (ak (aB (aB (aB ao.nil)))))) (by exact lq))
 refine rA ?_ (x := bh (ag := true) (vs := [val _, val _, sl _ _, sl _ _, sl _ _]) iX (by exact tI) (by exact rfl) (by exact nl rfl))
 exact Kc
def ac3 {x : br}  (hb : ns x ≤ 68719476736) : aN prog 158 [(true, [val (vI x.Segment), val (vI x.Base), sl .v (x.Ids.map am), sl .v (x.aeF.map am), sl .v (x.Rows.map am)])] (aJ [(true, [val (vI x.Segment), val (vI x.Base), sl ab (x.Ids.map am), sl ab (x.aeF.map am), sl ab (x.Rows.map am)])]) := by
 refine sF func158 fun h0 w0 Fz0 => ?_
 refine sn 0 2 fun hl0_2 => ?_
 refine sn 0 3 fun hl0_3 => ?_
 refine sn 0 4 fun hl0_4 => ?_
 have hbu := hb
 simp only [ns, dE, bf] at hbu
 refine po ?_
 refine rX ?_ (x := (cr (by decide) kf rr))
 refine qT ?_
 refine dA 0 ?_ (x := lF wz)
 refine dA 1 ?_ (x := lD [val _] az)
 refine dA 0 ?_ (x := lF nu)
 refine dA 4 ?_ (x := lD [val _] az)
 refine dA 0 ?_ (x := bP (qs := []) (by decide) bC eg (by decide) rfl rfl rfl rfl rfl (by exact nl rfl) (by exact tI) rfl)
 refine dA 0 ?_ (x := lF lX)
 refine dA 32 ?_ (x := lD [sl .v _] bF)
 refine dA 112 ?_ (x := it (by decide) bC eg rfl rfl (by decide) (by first | (intro cs hcs; obtain ⟨x, _, rfl⟩ := List.mem_map.1 hcs; exact rfl) | simp) (by first | (intro cs hcs; obtain ⟨x, _, rfl⟩ := List.mem_map.1 hcs; exact (aj.cons (bor_val _) aj.nil)) | simp) (by simp only [aw, aM, List.length_cons, List.length_nil]; omega) (by simp only [aw, aM, List.length_cons, List.length_nil]; omega))
 refine dA 0 ?_ (x := bP (qs := []) (by decide) bC eg (by decide) rfl rfl rfl rfl rfl (by exact nl rfl) (by exact tI) rfl)
 refine dA 0 ?_ (x := lF lY)
 refine MK ?_
 refine dA 0 ?_ (x := bP (qs := []) (by decide) bC eg (by decide) rfl rfl rfl rfl rfl (by exact nl rfl) (by exact tI) rfl)
 refine dA 0 ?_ (x := lF kb)
 refine dA 8192 ?_ (x := lD [sl .v _] bF)
 refine dA 32752 ?_ (x := it (by decide) bC eg rfl rfl (by decide) (by first | (intro cs hcs; obtain ⟨x, _, rfl⟩ := List.mem_map.1 hcs; exact rfl) | simp) (by first | (intro cs hcs; obtain ⟨x, _, rfl⟩ := List.mem_map.1 hcs; exact (aj.cons (bor_val _) aj.nil)) | simp) (by simp only [aw, aM, List.length_cons, List.length_nil]; omega) (by simp only [aw, aM, List.length_cons, List.length_nil]; omega))
 refine dA 65535 ?_ (x := dp (qs := [(false, [val _]), (false, [val _]), (false, [sl _ _]), (false, [sl _ _]), (false, [sl _ _])]) (cs := [val _, val _, sl _ _, sl _ _, sl _ _]) (by decide) kf rr ac1 (by exact rfl) (by exact (aI (by exact tI) (aI (by exact tI) (aI (by exact tI) (aI (by exact tI) (aI (by exact tI) tI)))))) rfl (by exact rfl))
 refine dA 131071 ?_ (x := bh (ag := true) (vs := [val _, val _, sl _ _, sl _ _, sl _ _]) iX (by exact tI) (by exact rfl) (by exact nl rfl))
 exact Kc
def ac4 {p4 : Fl} {x : aez}  (hb : dc x ≤ 68719476736) : aN prog 145 [(true, [val (vI x.aeA.Id), val (vI x.aeA.aeE), sl .v (x.aeA.aeB.map bH), sl .v (x.aeA.Out.map am), val (vI x.Time), sl .v (x.aeI.map am), val (vI x.Age), val (vI x.Sent), val (vI x.Cap), sl .v (x.Rows.map (bI p4))])] (aJ [(true, [val (vI x.aeA.Id), val (vI x.aeA.aeE), sl aD (x.aeA.aeB.map bH), sl ab (x.aeA.Out.map am), val (vI x.Time), sl ab (x.aeI.map am), val (vI x.Age), val (vI x.Sent), val (vI x.Cap), sl aE (x.Rows.map (bI ab))])]) := by
 refine sF func145 fun h0 w0 Fz0 => ?_
 refine sn 0 2 fun hl0_2 => ?_
 refine sn 0 3 fun hl0_3 => ?_
 refine sn 0 5 fun hl0_5 => ?_
 refine sn 0 9 fun hl0_9 => ?_
 have hbu := hb
 simp only [dc, dE, bf] at hbu
 refine OL ?_
 refine rX ?_ (x := (cr (by decide) gI rq))
 refine qT ?_
 refine dA 0 ?_ (x := lF gV)
 refine NN ?_
 refine dA 0 ?_ (x := lF jt)
 refine OW ?_
 refine dA 0 ?_ (x := lF oE)
 refine dA 64 ?_ (x := lD [sl .v _] jx)
 refine dA 255 ?_ (x := cL [(false, [sl _ _])] [(false, [sl .v _])] Rx (hs := by exact RS (by omega)))
 refine dA 223 ?_ (x := lF gV)
 refine dA 1023 ?_ (x := bh (ag := true) (vs := [val _, val _, sl _ _, sl _ _]) eQ (by exact tI) (by exact rfl) (by exact nl rfl))
 refine dA 2047 ?_ (x := lF jt)
 refine dA 4095 ?_ (x := bh (ag := false) (vs := [sl _ _]) bF (by exact tI) (by exact rfl) (by exact nl rfl))
 refine dA 8191 ?_ (x := lF oE)
 refine dA 16383 ?_ (x := bh (ag := false) (vs := [sl _ _]) jx (by exact tI) (by exact rfl) (by exact nl rfl))
 refine be ?_
 refine sO [(1, _), (2, _)] [(1, (108, [val _, val _, sl _ _, sl _ _, val _, sl _ _, val _, val _, val _, sl _ _])), (2, _)] ?_
 refine bd ?_
 refine rA ?_ (x := cP (ms := [val _, val _, sl _ _, sl _ _, val _, sl _ _, val _, val _, val _, sl _ _]) (qs := [val _, val _, sl .v _, sl .v _, val _, sl .v _, val _, val _, val _, sl .v _]) (by decide) gv (fun h => nomatch h) (by exact nl rfl) (by exact rfl) (by exact (ak (ak (aB (aB (ak (aB (ak (ak (ak (aB ao.nil))))))))))) (by exact lq))
 refine rA ?_ (x := bh (ag := true) (vs := [val _, val _, sl _ _, sl _ _, val _, sl _ _, val _, val _, val _, sl _ _]) gv (by exact tI) (by exact rfl) (by exact nl rfl))
 refine cT ?_
 exact (bw 2 (bw _ (aI (by exact rfl) (aI (by exact rfl) (aI gv (aI (fun h => nomatch h) tI))))))
def ac5 {p3 : Fl} {x : fi}  (hb : ia x ≤ 68719476736) : aN prog 146 [(true, [val (vI x.aeA.Id), val (vI x.aeA.aeE), sl .v (x.aeA.aeB.map bH), sl .v (x.aeA.Out.map am), val (vI x.Time), val (vI x.Steps), sl .v (x.Rows.map (bI p3))])] (aJ [(true, [val (vI x.aeA.Id), val (vI x.aeA.aeE), sl aD (x.aeA.aeB.map bH), sl ab (x.aeA.Out.map am), val (vI x.Time), val (vI x.Steps), sl aE (x.Rows.map (bI ab))])]) := by
 refine sF func146 fun h0 w0 Fz0 => ?_
 refine sn 0 2 fun hl0_2 => ?_
 refine sn 0 3 fun hl0_3 => ?_
 refine sn 0 6 fun hl0_6 => ?_
 have hbu := hb
 simp only [ia, bf] at hbu
 refine sR ?_
 refine rX ?_ (x := (eD (ag := true) (cs := [val _, val _, sl _ _, sl _ _, val _, val _, sl _ _]) (by decide) (by exact tI)))
 refine rX ?_ (x := (cr (by decide) nw zL))
 refine qT ?_
 refine dA 0 ?_ (x := lF wy)
 refine NN ?_
 refine dA 0 ?_ (x := lF rn)
 refine dA 8 ?_ (x := lD [sl .v _] jx)
 refine dA 31 ?_ (x := cL [(false, [sl _ _])] [(false, [sl .v _])] Rx (hs := by exact RS (by omega)))
 refine dA 31 ?_ (x := lF wy)
 refine dA 127 ?_ (x := bh (ag := true) (vs := [val _, val _, sl _ _, sl _ _]) eQ (by exact tI) (by exact rfl) (by exact nl rfl))
 refine dA 255 ?_ (x := lF rn)
 refine dA 511 ?_ (x := bh (ag := false) (vs := [sl _ _]) jx (by exact tI) (by exact rfl) (by exact nl rfl))
 refine be ?_
 refine sO [(1, _), (2, _)] [(1, (63, [val _, val _, sl _ _, sl _ _, val _, val _, sl _ _])), (2, _)] ?_
 refine bd ?_
 refine rA ?_ (x := cP (ms := [val _, val _, sl _ _, sl _ _, val _, val _, sl _ _]) (qs := [val _, val _, sl .v _, sl .v _, val _, val _, sl .v _]) (by decide) ro (fun h => nomatch h) (by exact nl rfl) (by exact rfl) (by exact (ak (ak (aB (aB (ak (ak (aB ao.nil)))))))) (by exact lq))
 refine rA ?_ (x := bh (ag := true) (vs := [val _, val _, sl _ _, sl _ _, val _, val _, sl _ _]) ro (by exact tI) (by exact rfl) (by exact nl rfl))
 refine cT ?_
 exact (bw 2 (bw _ (aI (by exact rfl) (aI (by exact rfl) (aI ro (aI (fun h => nomatch h) tI))))))
def ac6 {a : Int} {b : List Int} {c : Int} {d : Int}  (hb : b.length ≤ 68719476736) : aN prog 273 [(false, [val (vI a)]), (false, [sl .v (b.map am)]), (false, [val (vI c)]), (false, [val (vI d)])] (aJ [(true, [val (vI (aR.mk a b c d).Id), sl ab ((aR.mk a b c d).Values.map am), val (vI (aR.mk a b c d).aeN), val (vI (aR.mk a b c d).aeJ)])]) := by
 refine sF func273 fun h0 w0 Fz0 => ?_
 refine sj 1 fun hl1 => ?_
 refine sR ?_
 refine rX ?_ (x := (cr (by decide) fE ny))
 refine sT [0, 1, 2, 3, 8] [8] ?_
 refine rM ?_
 refine Pd ?_
 refine jS ?_
 refine rA ?_ (x := dp (qs := [(false, [val _]), (false, [sl _ _]), (false, [val _]), (false, [val _])]) (cs := [val _, sl _ _, val _, val _]) (by decide) fE ny TS (by exact rfl) (by exact (aI (by exact tI) (aI (by exact tI) (aI (by exact tI) (aI (by exact tI) tI))))) rfl (by exact rfl))
 refine rA ?_ (x := bh (ag := true) (vs := [val _, sl _ _, val _, val _]) fq (by exact tI) (by exact rfl) (by exact nl rfl))
 refine cT ?_
 exact (bw 8 (bw _ (aI (by exact rfl) (aI (by exact rfl) (aI fq (aI (fun h => nomatch h) tI))))))
def ac7 {p1 : Fl} {x : List aR}  (hb : co x ≤ 68719476736) : aN prog 232 [(false, [sl .v (x.map (eN p1))])] (aJ [(false, [sl aV (x.map (eN ab))])]) := by
 refine sF func232 fun h0 w0 Fz0 => ?_
 refine sj 0 fun hl0 => ?_
 have hbu := hb
 simp only [co] at hbu
 refine sR ?_
 refine rA ?_ (x := kx (.inr rfl) (by decide) (lG (t := 184) (e := 4)))
 refine sS [0, 2] [] ?_
 refine tx ?_
 refine tg ?_
 refine sL [0, 2] [] (fun k : Nat => k ≤ x.length) (fun k : Nat => [(3, RV.slc aV ((x.take k).map (eN ab))), (4, RV.int (k : Int))]) (fun k : Nat => []) (fun k : Nat => x.length - k) 0 (by omega) (by exact aI (by first | exact rfl | simp) (aI (by exact rfl) tI)) (by exact tI) ?_
 rintro k hk
 refine de ?_
 refine zu ?_
 refine sc ?_ ?_ <;> intro hba
 have hlt : k < x.length := by omega
 have hwm := di (f := cw) hlt
 have htl : (x.take k).length = k := by rw [bv]; omega
 have hwv : cw x[k] = x[k].Values.length := by simp only [cw, dE, bf]; omega
 refine bi ?_
 refine sP [0, 2, 3, 4] [] ?_
 refine ta ?_
 refine eY ?_
 refine Oe ?_
 refine dA 30 ?_ (x := lE [val _] az)
 refine eY ?_
 refine dA 192 ?_ (x := aU (by decide) cy (by exact tI) (by exact rfl) (by exact aW (by omega) rfl) (by exact rfl))
 refine dA 448 ?_ (x := cd (by decide) lu (by exact nl rfl))
 refine dA 960 ?_ (x := lE [sl .v _] bF)
 refine eY ?_
 refine dA 6144 ?_ (x := aU (by decide) cy (by exact tI) (by exact rfl) (by exact aW (by omega) rfl) (by exact rfl))
 refine dA 14336 ?_ (x := cd (by decide) kH (by exact nl rfl))
 refine dA 30720 ?_ (x := lE [val _] az)
 refine eY ?_
 refine dA 196608 ?_ (x := aU (by decide) cy (by exact tI) (by exact rfl) (by exact aW (by omega) rfl) (by exact rfl))
 refine dA 458752 ?_ (x := cd (by decide) iB (by exact nl rfl))
 refine dA 983040 ?_ (x := lE [val _] az)
 refine dA 2097150 ?_ (x := cL [(false, [val _]), (false, [sl _ _]), (false, [val _]), (false, [val _])] [(false, [val _]), (false, [sl .v _]), (false, [val _]), (false, [val _])] YV (hs := by exact (ac6 (by omega))))
 refine dA 4194302 ?_ (x := bP (qs := [(true, [val _, sl _ _, val _, val _])]) (by decide) cy fE (by decide) rfl rfl rfl rfl rfl (by exact nl rfl) (by exact (aI (by exact tI) tI)) rfl)
 refine dA 8388607 ?_ (x := en (by decide) cy fE rfl rfl (by decide) rfl (by simp only [aw, aM, List.length_cons, List.length_nil]; omega) (by simp only [aw, aM, List.length_cons, List.length_nil]; omega))
 refine dA 16777215 ?_ (x := tA)
 refine sG [0, 2, 3, 4] [] ?_
 exact BN
 exact BP
def TU {p1 p2 : Fl} {s : Store}  (hb : cB s ≤ 68719476736) : aN prog 143 [(true, [sl .v (s.aey.map (aG p1 p2)), val (vI s.Now)])] (aJ [(true, [sl bz (s.aey.map (aG aV ab)), val (vI s.Now)])]) := by
 refine sF func143 fun h0 w0 Fz0 => ?_
 refine sn 0 0 fun hl0_0 => ?_
 have hbu := hb
 simp only [cB, fW, bf] at hbu
 refine jo ?_
 refine rX ?_ (x := (cr (by decide) oI oJ))
 refine sT [1, 2] [1, 2] ?_
 refine rA ?_ (x := lF fK)
 refine NO ?_
 refine mw ?_
 refine dJ ?_
 refine PT ?_
 refine lM ?_
 refine eo ?_
 refine sP [1, 2, 3, 13, 14, 15] [1, 2, 3] ?_
 refine sL [1, 2, 3, 13, 14] [1, 2] (fun k : Nat => k ≤ s.aey.length) (fun k : Nat => [(15, RV.int (k : Int))]) (fun k : Nat => [(3, (26, [sl bz ((s.aey.take k).map (aG aV ab)), val (vI s.Now)]))]) (fun k : Nat => s.aey.length - k) 0 (by omega) (by exact aI (by exact rfl) tI) (by exact aI (by exact rfl) tI) ?_
 rintro k hk
 refine cn ?_
 refine sc ?_ ?_ <;> intro hba
 have hlt : k < s.aey.length := by omega
 have hwm := di (f := co) hlt
 have hws : co s.aey[k] = s.aey[k].length + (s.aey[k].map cw).sum := rfl
 have htl : (s.aey.take k).length = k := by rw [bv]; omega
 refine bi ?_
 refine sT [1, 2, 3, 13, 14, 15] [1, 2, 3] ?_
 refine Eg ?_
 refine sS [1, 2, 3, 5, 13, 14, 15] [1, 2, 3] ?_
 refine tx ?_
 refine sS [1, 2, 3, 5, 6, 13, 14, 15] [1, 2, 3] ?_
 refine tH ?_
 refine sP [1, 2, 3, 5, 6, 13, 14, 15, 20, 21, 22] [1, 2, 3] ?_
 refine sL [1, 2, 3, 5, 13, 14, 15, 20, 21] [1, 2, 3] (fun j : Nat => j ≤ s.aey[k].length) (fun j : Nat => [(6, RV.slc aV ((s.aey[k].take j).map (eN ab))), (22, RV.int (j : Int))]) (fun j : Nat => []) (fun j : Nat => s.aey[k].length - j) 0 (by omega) (by exact aI (by exact rfl) (aI (by exact rfl) tI)) (by exact tI) ?_
 rintro j hj
 refine cn ?_
 refine sc ?_ ?_ <;> intro hbb
 have hlt2 : j < s.aey[k].length := by omega
 have hwm2 := di (f := cw) hlt2
 have hwv : cw s.aey[k][j] = s.aey[k][j].Values.length := by simp only [cw, dE, bf]; omega
 have htl2 : (s.aey[k].take j).length = j := by rw [bv]; omega
 refine bi ?_
 refine sT [1, 2, 3, 5, 6, 13, 14, 15, 20, 21, 22] [1, 2, 3] ?_
 refine vg ?_
 refine ve ?_
 refine sO [(1, _), (2, _), (3, _), (5, _), (6, _), (8, _), (13, _), (14, _), (15, _), (20, _), (21, _), (22, _)] [(1, _), (2, _), (3, _), (8, (184, [val _, sl _ _, val _, val _]))] ?_
 refine ta ?_
 refine dA 0 ?_ (x := lF nt)
 refine dA 2 ?_ (x := lD [val _] az)
 refine dA 0 ?_ (x := lF lu)
 refine dA 8 ?_ (x := lD [sl .v _] bF)
 refine dA 24 ?_ (x := cL [(false, [sl _ _])] [(false, [sl .v _])] oD (hs := by exact oV (by omega)))
 refine dA 0 ?_ (x := lF kH)
 refine dA 64 ?_ (x := lD [val _] az)
 refine dA 0 ?_ (x := lF iB)
 refine dA 256 ?_ (x := lD [val _] az)
 refine dA 1022 ?_ (x := dp (qs := [(false, [val _]), (false, [sl _ _]), (false, [val _]), (false, [val _])]) (cs := [val _, sl _ _, val _, val _]) (by decide) fE ny TS (by exact rfl) (by exact (aI (by exact tI) (aI (by exact tI) (aI (by exact tI) (aI (by exact tI) tI))))) rfl (by exact rfl))
 refine dA 2046 ?_ (x := bP (qs := [(true, [val _, sl _ _, val _, val _])]) (by decide) cy fE (by decide) rfl rfl rfl rfl rfl (by exact nl rfl) (by exact (aI (by exact tI) tI)) rfl)
 refine dA 4095 ?_ (x := en (by decide) cy fE rfl rfl (by decide) rfl (by simp only [aw, aM, List.length_cons, List.length_nil]; omega) (by simp only [aw, aM, List.length_cons, List.length_nil]; omega))
 refine dA 8191 ?_ (x := tA)
 refine sG [1, 2, 3, 5, 6, 8, 13, 14, 15, 20, 21, 22] [1, 2, 3, 8] ?_
 refine cF ?_
 refine nx (j + 1) (by omega) (e := (by exact aI (by exact bG (by rw [tP hlt2, bj]; exact rfl)) (aI (by exact rfl) tI)))
 have hend2 : j = s.aey[k].length := by omega
 refine bq ?_
 refine sH [1, 2, 3, 5, 6, 13, 14, 15, 20, 21, 22] [1, 2, 3] ?_
 refine NA ?_
 refine rA ?_ (x := tM)
 refine MS ?_
 refine Pi ?_
 refine sO [(1, _), (2, _), (3, _), (5, _), (13, _), (14, _), (15, _), (20, _), (21, _), (22, _)] [(1, _), (2, _), (3, (26, [sl _ _, val _]))] ?_
 refine bd ?_
 refine cF ?_
 refine nx (k + 1) (by omega) (f := (by exact aI (by rw [hend2, cj, tP hlt]; simp only [bj]; exact rfl) tI))
 have hend : k = s.aey.length := by omega
 refine bq ?_
 refine sT [1, 2, 3, 13, 14, 15] [1, 2, 3] ?_
 exact Kd
def GO {p1 p2 : Fl} {s : Store}  (hb : cB s ≤ 68719476736) : aN prog 155 [(true, [sl .v (s.aey.map (aG p1 p2)), val (vI s.Now)])] (aJ [(true, [sl bz (s.aey.map (aG aV ab)), val (vI s.Now)])]) := by
 refine sF func155 fun h0 w0 Fz0 => ?_
 refine sn 0 0 fun hl0_0 => ?_
 have hbu := hb
 simp only [cB, fW, bf] at hbu
 refine jo ?_
 refine rX ?_ (x := (cr (by decide) oI oJ))
 refine sT [1, 2] [1, 2] ?_
 refine rA ?_ (x := lF fK)
 refine NO ?_
 refine mw ?_
 refine dJ ?_
 refine PT ?_
 refine ca ?_
 refine sP [1, 2, 3, 4] [1, 2, 3] ?_
 refine sL [1, 2, 3] [1, 2] (fun k : Nat => k ≤ s.aey.length) (fun k : Nat => [(4, RV.int (k : Int))]) (fun k : Nat => [(3, (26, [sl bz ((s.aey.take k).map (aG aV ab)), val (vI s.Now)]))]) (fun k : Nat => s.aey.length - k) 0 (by omega) (by exact aI (by exact rfl) tI) (by exact aI (by exact rfl) tI) ?_
 rintro k hk
 refine tF ?_
 refine sc ?_ ?_ <;> intro hba
 have hlt : k < s.aey.length := by omega
 have hwm := di (f := co) hlt
 have hws : co s.aey[k] = s.aey[k].length + (s.aey[k].map cw).sum := rfl
 have htl : (s.aey.take k).length = k := by rw [bv]; omega
 refine bi ?_
 refine sQ [1, 2, 3, 4] [1, 2, 3] ?_
 refine da cG ?_
 refine dA 0 ?_ (x := lF jX)
 refine dA 1 ?_ (x := cP (ms := [sl _ _]) (qs := [sl .v _]) (by decide) kc (fun _ => rfl) (by exact nl rfl) (by exact rfl) (by exact (aB ao.nil)) (by exact (aj.cons (bor_sl _) aj.nil)))
 refine dA 0 ?_ (x := lF jX)
 refine dA 4 ?_ (x := lD [sl .v _] kc)
 refine dA 0 ?_ (x := sM)
 refine dA 28 ?_ (x := aU (by decide) eP (by exact tI) (by exact rfl) (by exact aW (by omega) rfl) (by exact rfl))
 refine dA 60 ?_ (x := lE [sl .v _] ie)
 refine dA 124 ?_ (x := cL [(false, [sl _ _])] [(false, [sl .v _])] YC (hs := by exact (ac7 (by omega))))
 refine dA 252 ?_ (x := bP (qs := [(false, [sl _ _])]) (by decide) eP zH (by decide) rfl rfl rfl rfl rfl (by exact nl rfl) (by exact (aI (by exact tI) tI)) rfl)
 refine dA 511 ?_ (x := en (by decide) eP zH rfl rfl (by decide) rfl (by simp only [aw, aM, List.length_cons, List.length_nil]; omega) (by simp only [aw, aM, List.length_cons, List.length_nil]; omega))
 refine dA 1023 ?_ (x := lF jX)
 refine dA 2047 ?_ (x := bh (ag := false) (vs := [sl _ _]) kc (by exact tI) (by exact rfl) (by exact nl rfl))
 refine sO [(1, _), (2, _), (3, _), (4, _)] [(1, _), (2, _), (3, (26, [sl _ _, val _]))] ?_
 exact xX
 have hend : k = s.aey.length := by omega
 refine bq ?_
 refine sT [1, 2, 3, 4] [1, 2, 3] ?_
 exact Kd
def TV {p1 p2 p5 p6 p7 p8 p9 p11 p12 p13 p14 p16 p17 p18 : Fl} {e : aA}  (hb : bp e ≤ 68719476736) : aN prog 53 [(true, [sl .v (e.Store.aey.map (aG p1 p2)), val (vI e.Store.Now), val (vI e.aeD), sl .v (e.Order.map am), sl .v (e.aez.map (aT p5 p6 p7 p8 p9)), sl .v (e.Done.map (bn p11 p12 p13 p14)), sl .v (e.aeL.map (bl p16 p17 p18)), val (vI e.Steps)])] (aJ [(true, [sl bz (e.Store.aey.map (aG aV ab)), val (vI e.Store.Now), val (vI e.aeD), sl ab (e.Order.map am), sl ce (e.aez.map (aT aD ab ab aE ab)), sl bT (e.Done.map (bn aD ab aE ab)), sl bY (e.aeL.map (bl ab ab ab)), val (vI e.Steps)])]) := by
 refine sF func53 fun h0 w0 Fz0 => ?_
 refine sn 0 0 fun hl0_0 => ?_
 refine sn 0 3 fun hl0_3 => ?_
 refine sn 0 4 fun hl0_4 => ?_
 refine sn 0 5 fun hl0_5 => ?_
 refine sn 0 6 fun hl0_6 => ?_
 have hbu := hb
 simp only [bp, fB, fC, fV, dE, bf] at hbu
 refine vD ?_
 refine qT ?_
 refine Dp ?_
 refine dA 3 ?_ (x := cL [(true, [sl _ _, val _])] [(true, [sl .v _, val _])] Rs (hs := by exact (TU (by omega))))
 refine dA 0 ?_ (x := lF mJ)
 refine dA 8 ?_ (x := lD [val _] az)
 refine dA 0 ?_ (x := lF wv)
 refine dA 32 ?_ (x := lD [sl .v _] bF)
 refine dA 103 ?_ (x := cL [(false, [sl _ _])] [(false, [sl .v _])] oD (hs := by exact oV (by omega)))
 refine dA 0 ?_ (x := lF lv)
 refine dA 256 ?_ (x := lD [val _] az)
 refine dA 1023 ?_ (x := dp (qs := [(true, [sl _ _, val _]), (false, [val _]), (false, [sl _ _]), (false, [val _])]) (cs := [sl _ _, val _, val _, sl _ _, sl _ _, sl _ _, sl _ _, val _]) (by decide) kI kK TT (by exact rfl) (by exact (aI (by exact tI) (aI (by exact tI) (aI (by exact tI) (aI (by exact tI) tI))))) rfl (by exact rfl))
 refine bJ.step 0 (by exact tI) (by exact tI) (bX.of rfl (cr (by decide) kI kK)) (nV (cu.of_ rfl)) (by kernel_rfl) ?_
 refine dA 4095 ?_ (x := bh (ag := true) (vs := [sl _ _, val _, val _, sl _ _, sl _ _, sl _ _, sl _ _, val _]) bU (by exact tI) (by exact rfl) (by exact nl rfl))
 refine dJ ?_
 refine Pp ?_
 refine oz ?_
 refine sP [1, 2, 3, 22, 23, 24] [1, 2, 3] ?_
 refine sL [1, 2, 3, 22, 23] [1, 2] (fun k : Nat => k ≤ e.aez.length) (fun k : Nat => [(24, RV.int (k : Int))]) (fun k : Nat => [(3, (32, [sl bz (e.Store.aey.map (aG aV ab)), val (vI e.Store.Now), val (vI e.aeD), sl ab (e.Order.map am), sl ce ((e.aez.take k).map (aT aD ab ab aE ab)), sl bT (([] : List fi).map (bn aD ab aE ab)), sl bY (([] : List br).map (bl ab ab ab)), val (vI e.Steps)]))]) (fun k : Nat => e.aez.length - k) 0 (by omega) (by exact aI (by exact rfl) tI) (by exact aI (by exact rfl) tI) ?_
 rintro k hk
 refine cn ?_
 refine sc ?_ ?_ <;> intro hba
 have hlt : k < e.aez.length := by omega
 have hwm := di (f := dc) hlt
 have hwu : dc e.aez[k] = eZ e.aez[k].aeA + e.aez[k].aeI.length + dj e.aez[k].Rows := by simp only [dc, dE, bf]; omega
 have htl : (e.aez.take k).length = k := by rw [bv]; omega
 refine bi ?_
 refine sT [1, 2, 3, 22, 23, 24] [1, 2, 3] ?_
 refine qz ?_
 refine qy ?_
 refine sO [(1, _), (2, _), (3, _), (5, _), (22, _), (23, _), (24, _)] [(1, _), (2, _), (3, _), (5, (108, [val _, val _, sl _ _, sl _ _, val _, sl _ _, val _, val _, val _, sl _ _]))] ?_
 refine da cG ?_
 refine Nx ?_
 refine dA 0 ?_ (x := lD [val _, val _, sl .v _, sl .v _, val _, sl .v _, val _, val _, val _, sl .v _] gv)
 refine dA 4 ?_ (x := cL [(true, [val _, val _, sl _ _, sl _ _, val _, sl _ _, val _, val _, val _, sl _ _])] [(true, [val _, val _, sl .v _, sl .v _, val _, sl .v _, val _, val _, val _, sl .v _])] XZ (hs := by exact (ac4 (by omega))))
 refine dA 12 ?_ (x := bP (qs := [(true, [val _, val _, sl _ _, sl _ _, val _, sl _ _, val _, val _, val _, sl _ _])]) (by decide) cg gI (by decide) rfl rfl rfl rfl rfl (by exact nl rfl) (by exact (aI (by exact tI) tI)) rfl)
 refine dA 31 ?_ (x := en (by decide) cg gI rfl rfl (by decide) rfl (by simp only [aw, aM, List.length_cons, List.length_nil]; omega) (by simp only [aw, aM, List.length_cons, List.length_nil]; omega))
 refine dA 63 ?_ (x := lF ee)
 refine dA 127 ?_ (x := bh (ag := false) (vs := [sl _ _]) dR (by exact tI) (by exact rfl) (by exact nl rfl))
 refine sO [(1, _), (2, _), (3, _), (5, _), (22, _), (23, _), (24, _)] [(1, _), (2, _), (3, (32, [sl _ _, val _, val _, sl _ _, sl _ _, sl _ _, sl _ _, val _])), (5, _)] ?_
 exact Ce
 have hend0 : k = e.aez.length := by omega
 refine er ?_
 refine sT [1, 2, 3, 22, 23, 24] [1, 2, 3] ?_
 refine sW ?_
 refine eo ?_
 refine sP [1, 2, 3, 22, 23, 24, 37, 38, 39] [1, 2, 3] ?_
 refine sL [1, 2, 3, 22, 23, 24, 37, 38] [1, 2] (fun k : Nat => k ≤ e.Done.length) (fun k : Nat => [(39, RV.int (k : Int))]) (fun k : Nat => [(3, (32, [sl bz (e.Store.aey.map (aG aV ab)), val (vI e.Store.Now), val (vI e.aeD), sl ab (e.Order.map am), sl ce (e.aez.map (aT aD ab ab aE ab)), sl bT ((e.Done.take k).map (bn aD ab aE ab)), sl bY (([] : List br).map (bl ab ab ab)), val (vI e.Steps)]))]) (fun k : Nat => e.Done.length - k) 0 (by omega) (by exact aI (by exact rfl) tI) (by exact aI (by rw [hend0, cj]; exact rfl) tI) ?_
 rintro k hk
 refine cn ?_
 refine sc ?_ ?_ <;> intro hbb
 have hlt : k < e.Done.length := by omega
 have hwm := di (f := ia) hlt
 have hwu : ia e.Done[k] = eZ e.Done[k].aeA + dj e.Done[k].Rows := by simp only [ia, bf]; omega
 have htl : (e.Done.take k).length = k := by rw [bv]; omega
 refine bi ?_
 refine sT [1, 2, 3, 22, 23, 24, 37, 38, 39] [1, 2, 3] ?_
 refine PQ ?_
 refine sO [(1, _), (2, _), (3, _), (7, _), (22, _), (23, _), (24, _), (37, _), (38, _), (39, _)] [(1, _), (2, _), (3, _), (7, (63, [val _, val _, sl _ _, sl _ _, val _, val _, sl _ _]))] ?_
 refine da cG ?_
 refine dA 0 ?_ (x := lF jY)
 refine dA 1 ?_ (x := cP (ms := [sl _ _]) (qs := [sl .v _]) (by decide) kd (fun _ => rfl) (by exact nl rfl) (by exact rfl) (by exact (aB ao.nil)) (by exact (aj.cons (bor_sl _) aj.nil)))
 refine dA 0 ?_ (x := lD [val _, val _, sl .v _, sl .v _, val _, val _, sl .v _] ro)
 refine dA 4 ?_ (x := cL [(true, [val _, val _, sl _ _, sl _ _, val _, val _, sl _ _])] [(true, [val _, val _, sl .v _, sl .v _, val _, val _, sl .v _])] Ya (hs := by exact (ac5 (by omega))))
 refine dA 12 ?_ (x := bP (qs := [(true, [val _, val _, sl _ _, sl _ _, val _, val _, sl _ _])]) (by decide) jw nw (by decide) rfl rfl rfl rfl rfl (by exact nl rfl) (by exact (aI (by exact tI) tI)) rfl)
 refine dA 31 ?_ (x := en (by decide) jw nw rfl rfl (by decide) rfl (by simp only [aw, aM, List.length_cons, List.length_nil]; omega) (by simp only [aw, aM, List.length_cons, List.length_nil]; omega))
 refine dA 63 ?_ (x := lF jY)
 refine dA 127 ?_ (x := bh (ag := false) (vs := [sl _ _]) kd (by exact tI) (by exact rfl) (by exact nl rfl))
 refine sO [(1, _), (2, _), (3, _), (7, _), (22, _), (23, _), (24, _), (37, _), (38, _), (39, _)] [(1, _), (2, _), (3, (32, [sl _ _, val _, val _, sl _ _, sl _ _, sl _ _, sl _ _, val _])), (7, _)] ?_
 exact Ce
 have hend1 : k = e.Done.length := by omega
 refine er ?_
 refine sT [1, 2, 3, 22, 23, 24, 37, 38, 39] [1, 2, 3] ?_
 refine mA ?_
 refine rA ?_ (x := lN fL)
 refine eo ?_
 refine sP [1, 2, 3, 22, 23, 24, 37, 38, 39, 52, 53, 54] [1, 2, 3] ?_
 refine sL [1, 2, 3, 22, 23, 24, 37, 38, 39, 52, 53] [1, 2] (fun k : Nat => k ≤ e.aeL.length) (fun k : Nat => [(54, RV.int (k : Int))]) (fun k : Nat => [(3, (32, [sl bz (e.Store.aey.map (aG aV ab)), val (vI e.Store.Now), val (vI e.aeD), sl ab (e.Order.map am), sl ce (e.aez.map (aT aD ab ab aE ab)), sl bT (e.Done.map (bn aD ab aE ab)), sl bY ((e.aeL.take k).map (bl ab ab ab)), val (vI e.Steps)]))]) (fun k : Nat => e.aeL.length - k) 0 (by omega) (by exact aI (by exact rfl) tI) (by exact aI (by rw [hend1, cj]; exact rfl) tI) ?_
 rintro k hk
 refine cn ?_
 refine sc ?_ ?_ <;> intro hbc
 have hlt : k < e.aeL.length := by omega
 have hwm := di (f := ns) hlt
 skip
 have htl : (e.aeL.take k).length = k := by rw [bv]; omega
 refine bi ?_
 refine sT [1, 2, 3, 22, 23, 24, 37, 38, 39, 52, 53, 54] [1, 2, 3] ?_
 refine qA ?_
 refine sE ?_
 refine sO [(1, _), (2, _), (3, _), (9, _), (22, _), (23, _), (24, _), (37, _), (38, _), (39, _), (52, _), (53, _), (54, _)] [(1, _), (2, _), (3, _), (9, (70, [val _, val _, sl _ _, sl _ _, sl _ _]))] ?_
 refine da cG ?_
 refine Ny ?_
 refine dA 0 ?_ (x := lD [val _, val _, sl .v _, sl .v _, sl .v _] iX)
 refine dA 4 ?_ (x := cL [(true, [val _, val _, sl _ _, sl _ _, sl _ _])] [(true, [val _, val _, sl .v _, sl .v _, sl .v _])] Yb (hs := by exact (ac2 (by omega))))
 refine dA 12 ?_ (x := bP (qs := [(true, [val _, val _, sl _ _, sl _ _, sl _ _])]) (by decide) fL kf (by decide) rfl rfl rfl rfl rfl (by exact nl rfl) (by exact (aI (by exact tI) tI)) rfl)
 refine dA 31 ?_ (x := en (by decide) fL kf rfl rfl (by decide) rfl (by simp only [aw, aM, List.length_cons, List.length_nil]; omega) (by simp only [aw, aM, List.length_cons, List.length_nil]; omega))
 refine dA 63 ?_ (x := lF iV)
 refine dA 127 ?_ (x := bh (ag := false) (vs := [sl _ _]) iW (by exact tI) (by exact rfl) (by exact nl rfl))
 refine sO [(1, _), (2, _), (3, _), (9, _), (22, _), (23, _), (24, _), (37, _), (38, _), (39, _), (52, _), (53, _), (54, _)] [(1, _), (2, _), (3, (32, [sl _ _, val _, val _, sl _ _, sl _ _, sl _ _, sl _ _, val _])), (9, _)] ?_
 exact Ce
 have hend2 : k = e.aeL.length := by omega
 refine bq ?_
 refine sT [1, 2, 3, 22, 23, 24, 37, 38, 39, 52, 53, 54] [1, 2, 3] ?_
 exact Kf
def TW {p1 p2 p5 p6 p7 p8 p9 p11 p12 p13 p14 p16 p17 p18 : Fl} {e : aA}  (hb : bp e ≤ 68719476736) : aN prog 60 [(true, [sl .v (e.Store.aey.map (aG p1 p2)), val (vI e.Store.Now), val (vI e.aeD), sl .v (e.Order.map am), sl .v (e.aez.map (aT p5 p6 p7 p8 p9)), sl .v (e.Done.map (bn p11 p12 p13 p14)), sl .v (e.aeL.map (bl p16 p17 p18)), val (vI e.Steps)])] (aJ [(true, [sl bz (e.Store.aey.map (aG aV ab)), val (vI e.Store.Now), val (vI e.aeD), sl ab (e.Order.map am), sl ce (e.aez.map (aT aD ab ab aE ab)), sl bT (e.Done.map (bn aD ab aE ab)), sl bY (e.aeL.map (bl ab ab ab)), val (vI e.Steps)])]) := by
 refine sF func60 fun h0 w0 Fz0 => ?_
 refine sn 0 0 fun hl0_0 => ?_
 refine sn 0 3 fun hl0_3 => ?_
 refine sn 0 4 fun hl0_4 => ?_
 refine sn 0 5 fun hl0_5 => ?_
 refine sn 0 6 fun hl0_6 => ?_
 have hbu := hb
 simp only [bp, fB, fC, fV, dE, bf] at hbu
 refine vD ?_
 refine qT ?_
 refine Dp ?_
 refine dA 3 ?_ (x := cL [(true, [sl _ _, val _])] [(true, [sl .v _, val _])] ET (hs := by exact (GO (by omega))))
 refine dA 0 ?_ (x := lF mJ)
 refine dA 8 ?_ (x := lD [val _] az)
 refine dA 0 ?_ (x := bP (qs := []) (by decide) bC eg (by decide) rfl rfl rfl rfl rfl (by exact nl rfl) (by exact tI) rfl)
 refine dA 0 ?_ (x := lF wv)
 refine dA 64 ?_ (x := lD [sl .v _] bF)
 refine dA 231 ?_ (x := it (by decide) bC eg rfl rfl (by decide) (by first | (intro cs hcs; obtain ⟨x, _, rfl⟩ := List.mem_map.1 hcs; exact rfl) | simp) (by first | (intro cs hcs; obtain ⟨x, _, rfl⟩ := List.mem_map.1 hcs; exact (aj.cons (bor_val _) aj.nil)) | simp) (by simp only [aw, aM, List.length_cons, List.length_nil]; omega) (by simp only [aw, aM, List.length_cons, List.length_nil]; omega))
 refine dA 0 ?_ (x := lF lv)
 refine dA 512 ?_ (x := lD [val _] az)
 refine dA 2047 ?_ (x := dp (qs := [(true, [sl _ _, val _]), (false, [val _]), (false, [sl _ _]), (false, [val _])]) (cs := [sl _ _, val _, val _, sl _ _, sl _ _, sl _ _, sl _ _, val _]) (by decide) kI kK TT (by exact rfl) (by exact (aI (by exact tI) (aI (by exact tI) (aI (by exact tI) (aI (by exact tI) tI))))) rfl (by exact rfl))
 refine bJ.step 0 (by exact tI) (by exact tI) (bX.of rfl (cr (by decide) kI kK)) (nV (cu.of_ rfl)) (by kernel_rfl) ?_
 refine dA 8191 ?_ (x := bh (ag := true) (vs := [sl _ _, val _, val _, sl _ _, sl _ _, sl _ _, sl _ _, val _]) bU (by exact tI) (by exact rfl) (by exact nl rfl))
 refine dJ ?_
 refine Pp ?_
 refine ca ?_
 refine sP [1, 2, 3, 4] [1, 2, 3] ?_
 refine sL [1, 2, 3] [1, 2] (fun k : Nat => k ≤ e.aez.length) (fun k : Nat => [(4, RV.int (k : Int))]) (fun k : Nat => [(3, (32, [sl bz (e.Store.aey.map (aG aV ab)), val (vI e.Store.Now), val (vI e.aeD), sl ab (e.Order.map am), sl ce ((e.aez.take k).map (aT aD ab ab aE ab)), sl bT (([] : List fi).map (bn aD ab aE ab)), sl bY (([] : List br).map (bl ab ab ab)), val (vI e.Steps)]))]) (fun k : Nat => e.aez.length - k) 0 (by omega) (by exact aI (by exact rfl) tI) (by exact aI (by exact rfl) tI) ?_
 rintro k hk
 refine de ?_
 refine pA ?_
 refine sc ?_ ?_ <;> intro hba
 have hlt : k < e.aez.length := by omega
 have hwm := di (f := dc) hlt
 have hwu : dc e.aez[k] = eZ e.aez[k].aeA + e.aez[k].aeI.length + dj e.aez[k].Rows := by simp only [dc, dE, bf]; omega
 have htl : (e.aez.take k).length = k := by rw [bv]; omega
 refine bi ?_
 refine sT [1, 2, 3, 4] [1, 2, 3] ?_
 refine mx ?_
 refine rM ?_
 refine qz ?_
 refine qy ?_
 refine be ?_
 refine yr ?_
 refine vu ?_
 refine rA ?_ (x := cL [(true, [val _, val _, sl _ _, sl _ _])] [(true, [val _, val _, sl .v _, sl .v _])] Ac (hs := by exact AQ (by omega)))
 refine rA ?_ (x := lF gV)
 refine yx ?_
 refine yr ?_
 refine rA ?_ (x := bP (qs := []) (by decide) bC eg (by decide) rfl rfl rfl rfl rfl (by exact nl rfl) (by exact tI) rfl)
 refine rA ?_ (x := lF jt)
 refine rA ?_ (x := lD [sl .v _] bF)
 refine rA ?_ (x := it (by decide) bC eg rfl rfl (by decide) (by first | (intro cs hcs; obtain ⟨x, _, rfl⟩ := List.mem_map.1 hcs; exact rfl) | simp) (by first | (intro cs hcs; obtain ⟨x, _, rfl⟩ := List.mem_map.1 hcs; exact (aj.cons (bor_val _) aj.nil)) | simp) (by simp only [aw, aM, List.length_cons, List.length_nil]; omega) (by simp only [aw, aM, List.length_cons, List.length_nil]; omega))
 refine rA ?_ (x := lF jt)
 refine vl ?_
 refine yr ?_
 refine rA ?_ (x := lF oE)
 refine Pj ?_
 refine Pf ?_
 refine yr ?_
 refine CJ ?_
 refine yj ?_
 refine CF ?_
 refine sO [(1, _), (2, _), (3, _), (4, _), (5, _)] [(1, _), (2, _), (3, (32, [sl _ _, val _, val _, sl _ _, sl _ _, sl _ _, sl _ _, val _])), (5, (108, [val _, val _, sl _ _, sl _ _, val _, sl _ _, val _, val _, val _, sl _ _]))] ?_
 exact xX
 have hend0 : k = e.aez.length := by omega
 refine er ?_
 refine sT [1, 2, 3, 4] [1, 2, 3] ?_
 refine ca ?_
 refine sP [1, 2, 3, 4, 6] [1, 2, 3] ?_
 refine sL [1, 2, 3, 4] [1, 2] (fun k : Nat => k ≤ e.Done.length) (fun k : Nat => [(6, RV.int (k : Int))]) (fun k : Nat => [(3, (32, [sl bz (e.Store.aey.map (aG aV ab)), val (vI e.Store.Now), val (vI e.aeD), sl ab (e.Order.map am), sl ce (e.aez.map (aT aD ab ab aE ab)), sl bT ((e.Done.take k).map (bn aD ab aE ab)), sl bY (([] : List br).map (bl ab ab ab)), val (vI e.Steps)]))]) (fun k : Nat => e.Done.length - k) 0 (by omega) (by exact aI (by exact rfl) tI) (by exact aI (by rw [hend0, cj]; exact rfl) tI) ?_
 rintro k hk
 refine de ?_
 refine we ?_
 refine sc ?_ ?_ <;> intro hbb
 have hlt : k < e.Done.length := by omega
 have hwm := di (f := ia) hlt
 have hwu : ia e.Done[k] = eZ e.Done[k].aeA + dj e.Done[k].Rows := by simp only [ia, bf]; omega
 have htl : (e.Done.take k).length = k := by rw [bv]; omega
 refine bi ?_
 refine sT [1, 2, 3, 4, 6] [1, 2, 3] ?_
 refine vf ?_
 refine rM ?_
 refine tz ?_
 refine CY ?_
 refine vv ?_
 refine rA ?_ (x := cL [(true, [val _, val _, sl _ _, sl _ _])] [(true, [val _, val _, sl .v _, sl .v _])] Ac (hs := by exact AQ (by omega)))
 refine rA ?_ (x := lF wy)
 refine yx ?_
 refine CY ?_
 refine rA ?_ (x := lF rn)
 refine Pj ?_
 refine rA ?_ (x := lF rn)
 refine rA ?_ (x := bh (ag := false) (vs := [sl _ _]) jx (by exact tI) (by exact rfl) (by exact nl rfl))
 refine CY ?_
 refine NB ?_
 refine rA ?_ (x := cP (ms := [val _, val _, sl _ _, sl _ _, val _, val _, sl _ _]) (qs := [val _, val _, sl .v _, sl .v _, val _, val _, sl .v _]) (by decide) ro (fun h => nomatch h) (by exact nl rfl) (by exact rfl) (by exact (ak (ak (aB (aB (ak (ak (aB ao.nil)))))))) (by exact lq))
 refine MO ?_
 refine Pk ?_
 refine sO [(1, _), (2, _), (3, _), (4, _), (6, _), (7, _)] [(1, _), (2, _), (3, (32, [sl _ _, val _, val _, sl _ _, sl _ _, sl _ _, sl _ _, val _])), (7, (63, [val _, val _, sl _ _, sl _ _, val _, val _, sl _ _]))] ?_
 exact xX
 have hend1 : k = e.Done.length := by omega
 refine er ?_
 refine sT [1, 2, 3, 4, 6] [1, 2, 3] ?_
 refine ca ?_
 refine sP [1, 2, 3, 4, 6, 8] [1, 2, 3] ?_
 refine sL [1, 2, 3, 4, 6] [1, 2] (fun k : Nat => k ≤ e.aeL.length) (fun k : Nat => [(8, RV.int (k : Int))]) (fun k : Nat => [(3, (32, [sl bz (e.Store.aey.map (aG aV ab)), val (vI e.Store.Now), val (vI e.aeD), sl ab (e.Order.map am), sl ce (e.aez.map (aT aD ab ab aE ab)), sl bT (e.Done.map (bn aD ab aE ab)), sl bY ((e.aeL.take k).map (bl ab ab ab)), val (vI e.Steps)]))]) (fun k : Nat => e.aeL.length - k) 0 (by omega) (by exact aI (by exact rfl) tI) (by exact aI (by rw [hend1, cj]; exact rfl) tI) ?_
 rintro k hk
 refine de ?_
 refine mA ?_
 refine vH ?_
 refine sc ?_ ?_ <;> intro hbc
 have hlt : k < e.aeL.length := by omega
 have hwm := di (f := ns) hlt
 skip
 have htl : (e.aeL.take k).length = k := by rw [bv]; omega
 refine bi ?_
 refine sQ [1, 2, 3, 4, 6, 8] [1, 2, 3] ?_
 refine da cG ?_
 refine Ny ?_
 refine dA 0 ?_ (x := lF iV)
 refine dA 4 ?_ (x := lD [sl .v _] iW)
 refine dA 0 ?_ (x := sM)
 refine dA 28 ?_ (x := aU (by decide) fL (by exact tI) (by exact rfl) (by exact aW (by omega) rfl) (by exact rfl))
 refine dA 60 ?_ (x := lE [val _, val _, sl .v _, sl .v _, sl .v _] iX)
 refine dA 124 ?_ (x := cL [(true, [val _, val _, sl _ _, sl _ _, sl _ _])] [(true, [val _, val _, sl .v _, sl .v _, sl .v _])] Yi (hs := by exact (ac3 (by omega))))
 refine dA 252 ?_ (x := bP (qs := [(true, [val _, val _, sl _ _, sl _ _, sl _ _])]) (by decide) fL kf (by decide) rfl rfl rfl rfl rfl (by exact nl rfl) (by exact (aI (by exact tI) tI)) rfl)
 refine dA 511 ?_ (x := en (by decide) fL kf rfl rfl (by decide) rfl (by simp only [aw, aM, List.length_cons, List.length_nil]; omega) (by simp only [aw, aM, List.length_cons, List.length_nil]; omega))
 refine dA 1023 ?_ (x := lF iV)
 refine dA 2047 ?_ (x := bh (ag := false) (vs := [sl _ _]) iW (by exact tI) (by exact rfl) (by exact nl rfl))
 refine sO [(1, _), (2, _), (3, _), (4, _), (6, _), (8, _)] [(1, _), (2, _), (3, (32, [sl _ _, val _, val _, sl _ _, sl _ _, sl _ _, sl _ _, val _]))] ?_
 exact xX
 have hend2 : k = e.aeL.length := by omega
 refine bq ?_
 refine sT [1, 2, 3, 4, 6, 8] [1, 2, 3] ?_
 exact Kf
end Go.Proofs.YtmekkgdboplbjaaGreat
