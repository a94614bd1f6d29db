/- What functions of the program compute. No condition. -/
import Derived.Test.YtmekkgdboplbjaaGreatDoorCT0
import Derived.Test.YtmekkgdboplbjaaGreatDoorCU0
set_option linter.all false
namespace Go.Proofs.YtmekkgdboplbjaaGreatDoor
open Go Go.RowKit M PV Tryz
set_option maxRecDepth 10000
attribute [local irreducible] PV.Lcl PV.LclR RV.Lcl
def UV : dL prog 116 = some [(0, 1), (1, 1), (2, 1), (3, 1)] := by kernel_rfl
def UW : dL prog 149 = some [(0, 1), (1, 1), (2, 1), (3, 1), (4, 1)] := by kernel_rfl
def UX : dL prog 41 = some [(0, 1), (1, 1)] := by kernel_rfl
def UY : dL prog 46 = some [(0, 2), (2, 1), (3, 1), (4, 1), (5, 1), (6, 1), (7, 1)] := by kernel_rfl
def UZ {x : bM}  (hb : oP x ≤ 68719476736) : aN prog 288 [(true, [val (vI x.Segment), val (vI x.Base), sl .v (x.Ids.map an), sl .v (x.ZL.map an), sl .v (x.Rows.map an)])] (aF [(true, [val (vI x.Segment), val (vI x.Base), sl ae (x.Ids.map an), sl ae (x.ZL.map an), sl ae (x.Rows.map an)])]) := by
 refine sF func288 fun h0 w0 Fz0 => ?_
 refine sn 0 2 fun hl0_2 => ?_
 refine sn 0 3 fun hl0_3 => ?_
 refine sn 0 4 fun hl0_4 => ?_
 have hbu := hb
 simp only [oP, dP, bh] at hbu
 refine pM ?_
 refine rX ?_ (x := (db (by decide) jY qy))
 refine ba ?_
 refine tv ?_
 refine dA 0 ?_ (x := lF By)
 refine dA 1 ?_ (x := lD [val _] aw)
 refine dA 0 ?_ (x := lF nZ)
 refine dA 4 ?_ (x := lD [val _] aw)
 refine dA 0 ?_ (x := bm (qs := []) (by decide) aW bX (by decide) rfl rfl rfl rfl rfl (by exact nl rfl) (by exact tI) rfl)
 refine dA 0 ?_ (x := lF rU)
 refine dA 32 ?_ (x := lD [sl .v _] bz)
 refine dA 112 ?_ (x := iW (by decide) aW bX rfl rfl (by decide) (by first | (intro cs hcs; obtain ⟨x, _, rfl⟩ := List.mem_map.1 hcs; exact rfl) | simp) (by first | (intro cs hcs; obtain ⟨x, _, rfl⟩ := List.mem_map.1 hcs; exact (ab.cons (bor_val _) ab.nil)) | simp) (by simp only [am, aD, List.length_cons, List.length_nil]; omega) (by simp only [am, aD, List.length_cons, List.length_nil]; omega))
 refine dA 0 ?_ (x := bm (qs := []) (by decide) aW bX (by decide) rfl rfl rfl rfl rfl (by exact nl rfl) (by exact tI) rfl)
 refine dA 0 ?_ (x := lF oa)
 refine Hy ?_
 refine dA 0 ?_ (x := bm (qs := []) (by decide) aW bX (by decide) rfl rfl rfl rfl rfl (by exact nl rfl) (by exact tI) rfl)
 refine dA 0 ?_ (x := lF iO)
 refine dA 8192 ?_ (x := lD [sl .v _] bz)
 refine dA 32752 ?_ (x := iW (by decide) aW bX rfl rfl (by decide) (by first | (intro cs hcs; obtain ⟨x, _, rfl⟩ := List.mem_map.1 hcs; exact rfl) | simp) (by first | (intro cs hcs; obtain ⟨x, _, rfl⟩ := List.mem_map.1 hcs; exact (ab.cons (bor_val _) ab.nil)) | simp) (by simp only [am, aD, List.length_cons, List.length_nil]; omega) (by simp only [am, aD, List.length_cons, List.length_nil]; omega))
 refine dA 65535 ?_ (x := dM (qs := [(false, [val _]), (false, [val _]), (false, [sl _ _]), (false, [sl _ _]), (false, [sl _ _])]) (cs := [val _, val _, sl _ _, sl _ _, sl _ _]) (by decide) jY qy UW (by exact rfl) (by exact (aI (by exact tI) (aI (by exact tI) (aI (by exact tI) (aI (by exact tI) (aI (by exact tI) tI)))))) rfl (by exact rfl))
 refine dA 131071 ?_ (x := bf (ag := true) (vs := [val _, val _, sl _ _, sl _ _, sl _ _]) jj (by exact tI) (by exact rfl) (by exact nl rfl))
 refine dc ?_
 exact (bj 2 (bj _ (aI (by exact rfl) (aI (by exact rfl) (aI jj (aI (fun h => nomatch h) tI))))))
def Va {a : Int} {b : List Int} {c : Int} {d : Int}  (hb : b.length ≤ 68719476736) : aN prog 307 [(false, [val (vI a)]), (false, [sl .v (b.map an)]), (false, [val (vI c)]), (false, [val (vI d)])] (aF [(true, [val (vI (aM.mk a b c d).Id), sl ae ((aM.mk a b c d).Values.map an), val (vI (aM.mk a b c d).ZT), val (vI (aM.mk a b c d).ZP)])]) := by
 refine sF func307 fun h0 w0 Fz0 => ?_
 refine sj 1 fun hl1 => ?_
 refine sR ?_
 refine rX ?_ (x := (db (by decide) fU pm))
 refine sT [0, 1, 2, 3, 8] [8] ?_
 refine rM ?_
 refine Jl ?_
 refine rM ?_
 refine rM ?_
 refine rA ?_ (x := dM (qs := [(false, [val _]), (false, [sl _ _]), (false, [val _]), (false, [val _])]) (cs := [val _, sl _ _, val _, val _]) (by decide) fU pm UV (by exact rfl) (by exact (aI (by exact tI) (aI (by exact tI) (aI (by exact tI) (aI (by exact tI) tI))))) rfl (by exact rfl))
 refine rA ?_ (x := bf (ag := true) (vs := [val _, sl _ _, val _, val _]) fC (by exact tI) (by exact rfl) (by exact nl rfl))
 refine dc ?_
 exact (bj 8 (bj _ (aI (by exact rfl) (aI (by exact rfl) (aI fC (aI (fun h => nomatch h) tI))))))
def Vb {p1 : Fl} {x : List aM}  (hb : cb x ≤ 68719476736) : aN prog 286 [(false, [sl .v (x.map (ff p1))])] (aF [(false, [sl be (x.map (ff ae))])]) := by
 refine sF func286 fun h0 w0 Fz0 => ?_
 refine sj 0 fun hl0 => ?_
 have hbu := hb
 simp only [cb] at hbu
 refine sR ?_
 refine rA ?_ (x := ki (.inr rfl) (by decide) (lG (t := 116) (e := 4)))
 refine sS [0, 2] [] ?_
 refine td ?_
 refine oI ?_
 refine sL [0, 2] [] (fun k : Nat => k ≤ x.length) (fun k : Nat => [(3, RV.slc be ((x.take k).map (ff ae))), (4, RV.int (k : Int))]) (fun k : Nat => []) (fun k : Nat => x.length - k) 0 (by omega) (by exact aI (by first | exact rfl | simp) (aI (by exact rfl) tI)) (by exact tI) ?_
 rintro k hk
 refine iv ?_
 refine pV ?_
 refine sc (fun hba => ?_) (fun hba => ?_)
 have hlt : k < x.length := by omega
 have hwm := fe (f := cw) hlt
 have htl : (x.take k).length = k := by rw [bg]; omega
 have hwv : cw x[k] = x[k].Values.length := by simp only [cw, dP, bh]; omega
 refine bw ?_
 refine sP [0, 2, 3, 4] [] ?_
 refine tw ?_
 refine gy ?_
 refine dA 6 ?_ (x := aU (by decide) cX (by exact tI) (by exact rfl) (by exact aV (by omega) rfl) (by exact rfl))
 refine dA 14 ?_ (x := cB (by decide) rT (by exact nl rfl))
 refine dA 30 ?_ (x := lE [val _] aw)
 refine gy ?_
 refine dA 192 ?_ (x := aU (by decide) cX (by exact tI) (by exact rfl) (by exact aV (by omega) rfl) (by exact rfl))
 refine dA 448 ?_ (x := cB (by decide) mL (by exact nl rfl))
 refine dA 960 ?_ (x := lE [sl .v _] bz)
 refine gy ?_
 refine dA 6144 ?_ (x := aU (by decide) cX (by exact tI) (by exact rfl) (by exact aV (by omega) rfl) (by exact rfl))
 refine dA 14336 ?_ (x := cB (by decide) kK (by exact nl rfl))
 refine dA 30720 ?_ (x := lE [val _] aw)
 refine gy ?_
 refine dA 196608 ?_ (x := aU (by decide) cX (by exact tI) (by exact rfl) (by exact aV (by omega) rfl) (by exact rfl))
 refine dA 458752 ?_ (x := cB (by decide) kL (by exact nl rfl))
 refine dA 983040 ?_ (x := lE [val _] aw)
 refine dA 2097150 ?_ (x := cL [(false, [val _]), (false, [sl _ _]), (false, [val _]), (false, [val _])] [(false, [val _]), (false, [sl .v _]), (false, [val _]), (false, [val _])] Tg (hs := by exact (Va (by omega))))
 refine dA 4194302 ?_ (x := bm (qs := [(true, [val _, sl _ _, val _, val _])]) (by decide) cX fU (by decide) rfl rfl rfl rfl rfl (by exact nl rfl) (by exact (aI (by exact tI) tI)) rfl)
 refine dA 8388607 ?_ (x := dy (by decide) cX fU rfl rfl (by decide) rfl (by simp only [am, aD, List.length_cons, List.length_nil]; omega) (by simp only [am, aD, List.length_cons, List.length_nil]; omega))
 refine dA 16777215 ?_ (x := tA)
 refine sG [0, 2, 3, 4] [] ?_
 exact yN
 exact yO
def BM {p1 p2 : Fl} {s : Store}  (hb : cq s ≤ 68719476736) : aN prog 254 [(true, [sl .v (s.ZE.map (aO p1 p2)), val (vI s.Now)])] (aF [(true, [sl bQ (s.ZE.map (aO be ae)), val (vI s.Now)])]) := by
 refine sF func254 fun h0 w0 Fz0 => ?_
 refine sn 0 0 fun hl0_0 => ?_
 have hbu := hb
 simp only [cq, gN, bh] at hbu
 refine kt ?_
 refine rX ?_ (x := (db (by decide) og oi))
 refine sT [1, 2] [1, 2] ?_
 refine rA ?_ (x := lF fG)
 refine rA ?_ (x := lD [val _] aw)
 refine rA ?_ (x := dM (qs := [(false, [val _])]) (cs := [sl _ _, val _]) (by decide) og oi UX (by exact rfl) (by exact (aI (by exact tI) tI)) rfl (by exact rfl))
 refine mx ?_
 refine dO ?_
 refine sO [(1, _), (2, _), (3, _)] [(1, _), (2, _), (3, (41, [sl _ _, val _]))] ?_
 refine rq ?_
 refine sP [1, 2, 3, 4] [1, 2, 3] ?_
 refine sL [1, 2, 3] [1, 2] (fun k : Nat => k ≤ s.ZE.length) (fun k : Nat => [(4, RV.int (k : Int))]) (fun k : Nat => [(3, (41, [sl bQ ((s.ZE.take k).map (aO be ae)), val (vI s.Now)]))]) (fun k : Nat => s.ZE.length - k) 0 (by omega) (by exact aI (by exact rfl) tI) (by exact aI (by exact rfl) tI) ?_
 rintro k hk
 refine cI ?_
 refine rj ?_
 refine sc (fun hba => ?_) (fun hba => ?_)
 have hlt : k < s.ZE.length := by omega
 have hwm := fe (f := cb) hlt
 have hws : cb s.ZE[k] = s.ZE[k].length + (s.ZE[k].map cw).sum := rfl
 have htl : (s.ZE.take k).length = k := by rw [bg]; omega
 refine bw ?_
 refine sQ [1, 2, 3, 4] [1, 2, 3] ?_
 refine cv cd ?_
 refine dA 0 ?_ (x := lF jW)
 refine dA 1 ?_ (x := dH (ms := [sl _ _]) (qs := [sl .v _]) (by decide) jX (fun _ => rfl) (by exact nl rfl) (by exact rfl) (by exact (aA ao.nil)) (by exact (ab.cons (bor_sl _) ab.nil)))
 refine dA 0 ?_ (x := lF jW)
 refine dA 4 ?_ (x := lD [sl .v _] jX)
 refine dA 0 ?_ (x := sM)
 refine dA 28 ?_ (x := aU (by decide) fj (by exact tI) (by exact rfl) (by exact aV (by omega) rfl) (by exact rfl))
 refine dA 60 ?_ (x := lE [sl .v _] iP)
 refine dA 124 ?_ (x := cL [(false, [sl _ _])] [(false, [sl .v _])] SY (hs := by exact (Vb (by omega))))
 refine dA 252 ?_ (x := bm (qs := [(false, [sl _ _])]) (by decide) fj xj (by decide) rfl rfl rfl rfl rfl (by exact nl rfl) (by exact (aI (by exact tI) tI)) rfl)
 refine dA 511 ?_ (x := dy (by decide) fj xj rfl rfl (by decide) rfl (by simp only [am, aD, List.length_cons, List.length_nil]; omega) (by simp only [am, aD, List.length_cons, List.length_nil]; omega))
 refine dA 1023 ?_ (x := lF jW)
 refine dA 2047 ?_ (x := bf (ag := false) (vs := [sl _ _]) jX (by exact tI) (by exact rfl) (by exact nl rfl))
 refine sO [(1, _), (2, _), (3, _), (4, _)] [(1, _), (2, _), (3, (41, [sl _ _, val _]))] ?_
 exact vp
 have hend : k = s.ZE.length := by omega
 refine bE ?_
 refine sT [1, 2, 3, 4] [1, 2, 3] ?_
 refine oD ?_
 refine dc ?_
 exact (bj 2 (bj _ (aI (by exact rfl) (aI (by refine dW ?_; rw [hend, bY]; exact rfl) (aI cF (aI (fun h => nomatch h) tI))))))
def LL {p1 p2 p5 p6 p7 p8 p9 p11 p12 p13 p14 p16 p17 p18 : Fl} {e : ay}  (hb : bB e ≤ 68719476736) : aN prog 257 [(true, [sl .v (e.Store.ZE.map (aO p1 p2)), val (vI e.Store.Now), val (vI e.ZJ), sl .v (e.Order.map an), sl .v (e.ZF.map (bq p5 p6 p7 p8 p9)), sl .v (e.Done.map (bN p11 p12 p13 p14)), sl .v (e.ZR.map (bF p16 p17 p18)), val (vI e.Steps)])] (aF [(true, [sl bQ (e.Store.ZE.map (aO be ae)), val (vI e.Store.Now), val (vI e.ZJ), sl ae (e.Order.map an), sl dr (e.ZF.map (bq aP ae ae aR ae)), sl cQ (e.Done.map (bN aP ae aR ae)), sl cH (e.ZR.map (bF ae ae ae)), val (vI e.Steps)])]) := by
 refine sF func257 fun h0 w0 Fz0 => ?_
 refine sn 0 0 fun hl0_0 => ?_
 refine sn 0 3 fun hl0_3 => ?_
 refine sn 0 4 fun hl0_4 => ?_
 refine sn 0 5 fun hl0_5 => ?_
 refine sn 0 6 fun hl0_6 => ?_
 have hbu := hb
 simp only [bB, ix, mC, hZ, dP, bh] at hbu
 refine zip ?_
 refine rX ?_ (x := (db (by decide) pj pn))
 refine ba ?_
 refine tv ?_
 refine dA 0 ?_ (x := lF fB)
 refine dA 1 ?_ (x := lD [sl .v _, val _] cF)
 refine dA 3 ?_ (x := cL [(true, [sl _ _, val _])] [(true, [sl .v _, val _])] Bq (hs := by exact (BM (by omega))))
 refine dA 0 ?_ (x := lF kN)
 refine dA 8 ?_ (x := lD [val _] aw)
 refine dA 0 ?_ (x := bm (qs := []) (by decide) aW bX (by decide) rfl rfl rfl rfl rfl (by exact nl rfl) (by exact tI) rfl)
 refine dA 0 ?_ (x := lF uj)
 refine dA 64 ?_ (x := lD [sl .v _] bz)
 refine dA 231 ?_ (x := iW (by decide) aW bX rfl rfl (by decide) (by first | (intro cs hcs; obtain ⟨x, _, rfl⟩ := List.mem_map.1 hcs; exact rfl) | simp) (by first | (intro cs hcs; obtain ⟨x, _, rfl⟩ := List.mem_map.1 hcs; exact (ab.cons (bor_val _) ab.nil)) | simp) (by simp only [am, aD, List.length_cons, List.length_nil]; omega) (by simp only [am, aD, List.length_cons, List.length_nil]; omega))
 refine dA 0 ?_ (x := lF mN)
 refine dA 512 ?_ (x := lD [val _] aw)
 refine dA 2047 ?_ (x := dM (qs := [(true, [sl _ _, val _]), (false, [val _]), (false, [sl _ _]), (false, [val _])]) (cs := [sl _ _, val _, val _, sl _ _, sl _ _, sl _ _, sl _ _, val _]) (by decide) pj pn UY (by exact rfl) (by exact (aI (by exact tI) (aI (by exact tI) (aI (by exact tI) (aI (by exact tI) tI))))) rfl (by exact rfl))
 refine bv.step 0 (by exact tI) (by exact tI) (bK.of rfl (db (by decide) pj pn)) (pB (cJ.of_ rfl)) (by kernel_rfl) ?_
 refine dA 8191 ?_ (x := bf (ag := true) (vs := [sl _ _, val _, val _, sl _ _, sl _ _, sl _ _, sl _ _, val _]) co (by exact tI) (by exact rfl) (by exact nl rfl))
 refine dO ?_
 refine sO [(1, _), (2, _), (3, _)] [(1, _), (2, _), (3, (46, [sl _ _, val _, val _, sl _ _, sl _ _, sl _ _, sl _ _, val _]))] ?_
 refine rq ?_
 refine sP [1, 2, 3, 4] [1, 2, 3] ?_
 refine sL [1, 2, 3] [1, 2] (fun k : Nat => k ≤ e.ZF.length) (fun k : Nat => [(4, RV.int (k : Int))]) (fun k : Nat => [(3, (46, [sl bQ (e.Store.ZE.map (aO be ae)), val (vI e.Store.Now), val (vI e.ZJ), sl ae (e.Order.map an), sl dr ((e.ZF.take k).map (bq aP ae ae aR ae)), sl cQ (([] : List eE).map (bN aP ae aR ae)), sl cH (([] : List bM).map (bF ae ae ae)), val (vI e.Steps)]))]) (fun k : Nat => e.ZF.length - k) 0 (by omega) (by exact aI (by exact rfl) tI) (by exact aI (by exact rfl) tI) ?_
 rintro k hk
 refine cI ?_
 refine oL ?_
 refine sc (fun hba => ?_) (fun hba => ?_)
 have hlt : k < e.ZF.length := by omega
 have hwm := fe (f := cS) hlt
 have hwu : cS e.ZF[k] = eM e.ZF[k].ZG + e.ZF[k].ZO.length + gm e.ZF[k].Rows := by simp only [cS, dP, bh]; omega
 have htl : (e.ZF.take k).length = k := by rw [bg]; omega
 refine bw ?_
 refine sT [1, 2, 3, 4] [1, 2, 3] ?_
 refine qc ?_
 refine tc ?_
 refine sZ ?_
 refine vN ?_
 refine rA ?_ (x := lF iN)
 refine Ip ?_
 refine rA ?_ (x := lF iN)
 refine Jc ?_
 refine vN ?_
 refine rA ?_ (x := bm (qs := []) (by decide) aW bX (by decide) rfl rfl rfl rfl rfl (by exact nl rfl) (by exact tI) rfl)
 refine rA ?_ (x := lF ls)
 refine rA ?_ (x := lD [sl .v _] bz)
 refine rA ?_ (x := iW (by decide) aW bX rfl rfl (by decide) (by first | (intro cs hcs; obtain ⟨x, _, rfl⟩ := List.mem_map.1 hcs; exact rfl) | simp) (by first | (intro cs hcs; obtain ⟨x, _, rfl⟩ := List.mem_map.1 hcs; exact (ab.cons (bor_val _) ab.nil)) | simp) (by simp only [am, aD, List.length_cons, List.length_nil]; omega) (by simp only [am, aD, List.length_cons, List.length_nil]; omega))
 refine rA ?_ (x := lF ls)
 refine zQ ?_
 refine vN ?_
 refine rA ?_ (x := lF nY)
 refine Jn ?_
 refine rA ?_ (x := lF nY)
 refine rA ?_ (x := bf (ag := false) (vs := [sl _ _]) gV (by exact tI) (by exact rfl) (by exact nl rfl))
 refine vN ?_
 refine zA ?_
 refine zy ?_
 refine qX ?_
 refine sO [(1, _), (2, _), (3, _), (4, _), (5, _)] [(1, _), (2, _), (3, (46, [sl _ _, val _, val _, sl _ _, sl _ _, sl _ _, sl _ _, val _])), (5, (102, [val _, val _, sl _ _, sl _ _, val _, sl _ _, val _, val _, val _, sl _ _]))] ?_
 exact vp
 have hend0 : k = e.ZF.length := by omega
 refine gM ?_
 refine sT [1, 2, 3, 4] [1, 2, 3] ?_
 refine de ?_
 refine sP [1, 2, 3, 4, 6] [1, 2, 3] ?_
 refine sL [1, 2, 3, 4] [1, 2] (fun k : Nat => k ≤ e.Done.length) (fun k : Nat => [(6, RV.int (k : Int))]) (fun k : Nat => [(3, (46, [sl bQ (e.Store.ZE.map (aO be ae)), val (vI e.Store.Now), val (vI e.ZJ), sl ae (e.Order.map an), sl dr (e.ZF.map (bq aP ae ae aR ae)), sl cQ ((e.Done.take k).map (bN aP ae aR ae)), sl cH (([] : List bM).map (bF ae ae ae)), val (vI e.Steps)]))]) (fun k : Nat => e.Done.length - k) 0 (by omega) (by exact aI (by exact rfl) tI) (by exact aI (by rw [hend0, bY]; exact rfl) tI) ?_
 rintro k hk
 refine cI ?_
 refine tn ?_
 refine rA ?_ (x := lN kO)
 refine rA ?_ (x := dZ)
 refine sc (fun hbb => ?_) (fun hbb => ?_)
 have hlt : k < e.Done.length := by omega
 have hwm := fe (f := qf) hlt
 have hwu : qf e.Done[k] = eM e.Done[k].ZG + gm e.Done[k].Rows := by simp only [qf, bh]; omega
 have htl : (e.Done.take k).length = k := by rw [bg]; omega
 refine bw ?_
 refine sT [1, 2, 3, 4, 6] [1, 2, 3] ?_
 refine tn ?_
 refine rM ?_
 refine zC ?_
 refine vE ?_
 refine ba ?_
 refine zM ?_
 refine rA ?_ (x := lF pi)
 refine Ip ?_
 refine rA ?_ (x := lF pi)
 refine Jc ?_
 refine zM ?_
 refine rA ?_ (x := lF mO)
 refine Jn ?_
 refine rA ?_ (x := lF mO)
 refine rA ?_ (x := bf (ag := false) (vs := [sl _ _]) gV (by exact tI) (by exact rfl) (by exact nl rfl))
 refine zM ?_
 refine rA ?_ (x := lF mM)
 refine rA ?_ (x := dH (ms := [sl _ _]) (qs := [sl .v _]) (by decide) mQ (fun _ => rfl) (by exact nl rfl) (by exact rfl) (by exact (aA ao.nil)) (by exact (ab.cons (bor_sl _) ab.nil)))
 refine rA ?_ (x := dH (ms := [val _, val _, sl _ _, sl _ _, val _, val _, sl _ _]) (qs := [val _, val _, sl .v _, sl .v _, val _, val _, sl .v _]) (by decide) qx (fun h => nomatch h) (by exact nl rfl) (by exact rfl) (by exact (aq (aq (aA (aA (aq (aq (aA ao.nil)))))))) (by exact lq))
 refine rA ?_ (x := bm (qs := [(true, [val _, val _, sl _ _, sl _ _, val _, val _, sl _ _])]) (by decide) kO pk (by decide) rfl rfl rfl rfl rfl (by exact nl rfl) (by exact (aI (by exact tI) tI)) rfl)
 refine rA ?_ (x := dy (by decide) kO pk rfl rfl (by decide) rfl (by simp only [am, aD, List.length_cons, List.length_nil]; omega) (by simp only [am, aD, List.length_cons, List.length_nil]; omega))
 refine rA ?_ (x := lF mM)
 refine rA ?_ (x := bf (ag := false) (vs := [sl _ _]) mQ (by exact tI) (by exact rfl) (by exact nl rfl))
 refine sO [(1, _), (2, _), (3, _), (4, _), (6, _), (7, _)] [(1, _), (2, _), (3, (46, [sl _ _, val _, val _, sl _ _, sl _ _, sl _ _, sl _ _, val _])), (7, (56, [val _, val _, sl _ _, sl _ _, val _, val _, sl _ _]))] ?_
 exact vp
 have hend1 : k = e.Done.length := by omega
 refine gM ?_
 refine sT [1, 2, 3, 4, 6] [1, 2, 3] ?_
 refine de ?_
 refine sP [1, 2, 3, 4, 6, 8] [1, 2, 3] ?_
 refine sL [1, 2, 3, 4, 6] [1, 2] (fun k : Nat => k ≤ e.ZR.length) (fun k : Nat => [(8, RV.int (k : Int))]) (fun k : Nat => [(3, (46, [sl bQ (e.Store.ZE.map (aO be ae)), val (vI e.Store.Now), val (vI e.ZJ), sl ae (e.Order.map an), sl dr (e.ZF.map (bq aP ae ae aR ae)), sl cQ (e.Done.map (bN aP ae aR ae)), sl cH ((e.ZR.take k).map (bF ae ae ae)), val (vI e.Steps)]))]) (fun k : Nat => e.ZR.length - k) 0 (by omega) (by exact aI (by exact rfl) tI) (by exact aI (by rw [hend1, bY]; exact rfl) tI) ?_
 rintro k hk
 refine cI ?_
 refine wc ?_
 refine wl ?_
 refine sc (fun hbc => ?_) (fun hbc => ?_)
 have hlt : k < e.ZR.length := by omega
 have hwm := fe (f := oP) hlt
 skip
 have htl : (e.ZR.take k).length = k := by rw [bg]; omega
 refine bw ?_
 refine sQ [1, 2, 3, 4, 6, 8] [1, 2, 3] ?_
 refine cv cd ?_
 refine dA 0 ?_ (x := lF ob)
 refine dA 1 ?_ (x := dH (ms := [sl _ _]) (qs := [sl .v _]) (by decide) oe (fun _ => rfl) (by exact nl rfl) (by exact rfl) (by exact (aA ao.nil)) (by exact (ab.cons (bor_sl _) ab.nil)))
 refine dA 0 ?_ (x := lF ob)
 refine dA 4 ?_ (x := lD [sl .v _] oe)
 refine dA 0 ?_ (x := sM)
 refine dA 28 ?_ (x := aU (by decide) ij (by exact tI) (by exact rfl) (by exact aV (by omega) rfl) (by exact rfl))
 refine dA 60 ?_ (x := lE [val _, val _, sl .v _, sl .v _, sl .v _] jj)
 refine dA 124 ?_ (x := cL [(true, [val _, val _, sl _ _, sl _ _, sl _ _])] [(true, [val _, val _, sl .v _, sl .v _, sl .v _])] Ta (hs := by exact (UZ (by omega))))
 refine dA 252 ?_ (x := bm (qs := [(true, [val _, val _, sl _ _, sl _ _, sl _ _])]) (by decide) ij jY (by decide) rfl rfl rfl rfl rfl (by exact nl rfl) (by exact (aI (by exact tI) tI)) rfl)
 refine dA 511 ?_ (x := dy (by decide) ij jY rfl rfl (by decide) rfl (by simp only [am, aD, List.length_cons, List.length_nil]; omega) (by simp only [am, aD, List.length_cons, List.length_nil]; omega))
 refine dA 1023 ?_ (x := lF ob)
 refine dA 2047 ?_ (x := bf (ag := false) (vs := [sl _ _]) oe (by exact tI) (by exact rfl) (by exact nl rfl))
 refine sO [(1, _), (2, _), (3, _), (4, _), (6, _), (8, _)] [(1, _), (2, _), (3, (46, [sl _ _, val _, val _, sl _ _, sl _ _, sl _ _, sl _ _, val _]))] ?_
 exact vp
 have hend2 : k = e.ZR.length := by omega
 refine bE ?_
 refine sT [1, 2, 3, 4, 6, 8] [1, 2, 3] ?_
 refine sU ?_
 refine dc ?_
 exact (bj 2 (bj _ (aI (by exact rfl) (aI (by refine dW ?_; rw [hend2, bY]; exact rfl) (aI co (aI (fun h => nomatch h) tI))))))
end Go.Proofs.YtmekkgdboplbjaaGreatDoor
