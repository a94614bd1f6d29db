/- What functions of the program compute. No condition. -/
import Derived.Test.YtmekkgdboplbjaaGreatCG0
set_option linter.all false
namespace Go.Proofs.YtmekkgdboplbjaaGreat
open Go Go.RowKit M PV Tryz
set_option maxRecDepth 10000
attribute [local irreducible] PV.Lcl PV.LclR RV.Lcl
def SQ {x : List Int}  (hb : b6 x ≤ 1048576) : aC prog 116 [(false, [sl .v (x.map ak)])] (az [(false, [sl aa (x.map ak)])]) := by
 refine sF func116 fun h0 w0 Fz0 => ?_
 refine sj 0 fun hl0 => ?_
 have hbu := hb
 simp only [b6] at hbu
 refine nJ ?_
 refine sS [0, 2] [] ?_
 refine iV ?_
 refine rX ?_ (x := (nn (by decide) bC ej rfl QF (by exact tI) (by exact tI) (by exact rfl) (by exact rfl) (by omega) (by omega)))
 refine n9 ?_
 refine sL [0, 2, 3] [] (fun k : Nat => k ≤ x.length) (fun k : Nat => [(4, RV.int (k : Int))]) (fun k : Nat => [(7, (3, (fz x ak [val (.int .i64 0)] k).flatten))]) (fun k : Nat => x.length - k) 0 (by omega) (by exact aI (by exact rfl) tI) (by exact aI (by rw [ng]; exact rfl) tI) ?_
 rintro k hk
 refine jl ?_
 refine sc (fun hba => ?_) (fun hba => ?_)
 have hlt : k < x.length := by omega
 have hwm := cR (f := a9) hlt
 refine og ?_
 refine mq ?_
 refine rA ?_ (x := ee (by decide) bC (by exact tI) (by exact rfl) (by omega))
 refine rA ?_ (x := bd (ag := false) (vs := [val _]) au (by exact tI) (by exact rfl) (by exact nk (fun _ => rfl) rfl hlt))
 refine nR ?_
 refine nx (k + 1) (by omega) (f := (by exact aI (by exact congrArg (fun z => some (3, z)) (nj (e := 1) (fun _ => rfl) rfl hlt)) tI))
 have hlt : k = x.length := by omega
 refine nP ?_
 refine rA ?_ (x := nq (es := (x.map ak)) (e := 1) (.inl rfl) (by decide) (by rw [hlt, nh]) (by exact ar _) (by intro c hc; obtain ⟨y, _, rfl⟩ := List.mem_map.1 hc; rfl))
 exact ml
def SR {x : cS}  (hb : lL x ≤ 1048576) : aC prog 264 [(true, [val (vI x.Field), val (vI x.Low), val (vI x.High)])] (az [(true, [val (vI x.Field), val (vI x.Low), val (vI x.High)])]) := by
 refine sF func264 fun h0 w0 Fz0 => ?_
 have hbu := hb
 simp only [lL] at hbu
 refine u8 ?_
 refine rX ?_ (x := (bR (by decide) mS tu))
 refine sT [1, 2] [1, 2] ?_
 refine rX ?_ (x := (bR (by decide) mS tu))
 refine aP ?_
 refine vc ?_
 refine rA ?_ (x := lF Qa)
 refine rA ?_ (x := lD [val _] au)
 refine rA ?_ (x := lF kR)
 refine dS ?_
 refine vc ?_
 refine rA ?_ (x := lF Qb)
 refine rA ?_ (x := lD [val _] au)
 refine rA ?_ (x := lF om)
 refine dS ?_
 refine vc ?_
 refine rA ?_ (x := lF Qc)
 refine rA ?_ (x := lD [val _] au)
 refine rA ?_ (x := lF kS)
 refine dS ?_
 refine vc ?_
 refine rA ?_ (x := lD [val _, val _, val _] lX)
 refine rA ?_ (x := bd (ag := true) (vs := [val _, val _, val _]) lX (by exact tI) (by exact rfl) (by exact nl rfl))
 refine dR ?_
 exact (bj 2 (bj _ (aI (by exact rfl) (aI (by exact rfl) (aI lX (aI (fun h => nomatch h) tI))))))
def SS {x : cE}  (hb : eG x ≤ 1048576) : aC prog 212 [(true, [val (vI x.Segment), val (vI x.Base), sl .v (x.Ids.map ak), sl .v (x.Wy.map ak), sl .v (x.Rows.map ak)])] (az [(true, [val (vI x.Segment), val (vI x.Base), sl aa (x.Ids.map ak), sl aa (x.Wy.map ak), sl aa (x.Rows.map ak)])]) := by
 refine sF func212 fun h0 w0 Fz0 => ?_
 refine sn 0 2 fun hl0_2 => ?_
 refine sn 0 3 fun hl0_3 => ?_
 refine sn 0 4 fun hl0_4 => ?_
 have hbu := hb
 simp only [eG] at hbu
 refine oZ ?_
 refine rX ?_ (x := (bR (by decide) iC oq))
 refine sT [1, 2] [1, 2] ?_
 refine zM ?_
 refine sz ?_
 refine rA ?_ (x := lF P8)
 refine rA ?_ (x := lD [val _] au)
 refine rA ?_ (x := lF oo)
 refine dS ?_
 refine sz ?_
 refine rA ?_ (x := lF P9)
 refine rA ?_ (x := lD [val _] au)
 refine rA ?_ (x := lF lW)
 refine dS ?_
 refine sz ?_
 refine rA ?_ (x := lF JH)
 refine nH ?_
 refine rA ?_ (x := lF kU)
 refine jM ?_
 refine sz ?_
 refine rA ?_ (x := lF JI)
 refine nH ?_
 refine rA ?_ (x := lF jx)
 refine jM ?_
 refine sz ?_
 refine rA ?_ (x := lF JJ)
 refine nH ?_
 refine rA ?_ (x := lF iA)
 refine jM ?_
 refine sO [(1, _), (2, _), (3, _)] [(1, _), (2, _), (3, (70, [val _, val _, sl _ _, sl _ _, sl _ _]))] ?_
 exact Dq
def SU {x : List cS}  (hb : iy x ≤ 1048576) : aC prog 213 [(false, [sl .v (x.map bf)])] (az [(false, [sl ay (x.map bf)])]) := by
 refine sF func213 fun h0 w0 Fz0 => ?_
 refine sj 0 fun hl0 => ?_
 have hbu := hb
 simp only [iy] at hbu
 refine sR ?_
 refine rA ?_ (x := ik (.inr rfl) (by decide) (jf (t := 178) (e := 3)))
 refine mz ?_
 refine rA ?_ (x := lN wk)
 refine rX ?_ (x := (nn (by decide) dZ mS rfl tu (by exact tI) (by exact tI) (by exact rfl) (by exact rfl) (by omega) (by omega)))
 refine n9 ?_
 refine sL [0, 2, 3] [] (fun k : Nat => k ≤ x.length) (fun k : Nat => [(4, RV.int (k : Int))]) (fun k : Nat => [(7, (178, (fz x bf [val (.int .i64 0), val (.int .i64 0), val (.int .i64 0)] k).flatten))]) (fun k : Nat => x.length - k) 0 (by omega) (by exact aI (by exact rfl) tI) (by exact aI (by rw [ng]; exact rfl) tI) ?_
 rintro k hk
 refine cQ ?_
 refine rA ?_ (x := lN wk)
 refine rA ?_ (x := cy)
 refine sc (fun hba => ?_) (fun hba => ?_)
 have hlt : k < x.length := by omega
 have hwm := cR (f := lL) hlt
 refine og ?_
 refine rA ?_ (x := aY (by decide) wk (by exact tI) (by exact rfl) (by exact be (by omega) rfl) (by exact rfl))
 refine rA ?_ (x := lE [val _, val _, val _] QB)
 refine rA ?_ (x := cL [(true, [val _, val _, val _])] [(true, [val _, val _, val _])] PM (hs := by exact SR (by omega)))
 refine rA ?_ (x := ee (by decide) dZ (by exact tI) (by exact rfl) (by omega))
 refine rA ?_ (x := bd (ag := true) (vs := [val _, val _, val _]) lX (by exact tI) (by exact rfl) (by exact nk (fun _ => rfl) rfl hlt))
 refine nR ?_
 refine nx (k + 1) (by omega) (f := (by exact aI (by exact congrArg (fun z => some (178, z)) (nj (e := 3) (fun _ => rfl) rfl hlt)) tI))
 have hlt : k = x.length := by omega
 refine nP ?_
 refine rA ?_ (x := nq (es := (x.map bf)) (e := 3) (.inl rfl) (by decide) (by rw [hlt, nh]) (by exact ar _) (by intro c hc; obtain ⟨y, _, rfl⟩ := List.mem_map.1 hc; rfl))
 exact ml
def K0 {x : Row}  (hb : de x ≤ 1048576) : aC prog 214 [(true, [val (vI x.Id), sl .v (x.Values.map ak)])] (az [(true, [val (vI x.Id), sl aa (x.Values.map ak)])]) := by
 refine sF func214 fun h0 w0 Fz0 => ?_
 refine sn 0 1 fun hl0_1 => ?_
 have hbu := hb
 simp only [de] at hbu
 refine pc ?_
 refine rX ?_ (x := (bR (by decide) iB kV))
 refine sT [1, 2] [1, 2] ?_
 refine vl ?_
 refine zx ?_
 refine rA ?_ (x := lF Ql)
 refine zX ?_
 refine dS ?_
 refine zx ?_
 refine rA ?_ (x := lF JT)
 refine nH ?_
 refine rA ?_ (x := lF gY)
 refine jM ?_
 refine zx ?_
 refine rA ?_ (x := cl (ms := [val _, sl _ _]) (qs := [val _, sl .v _]) (by decide) eS (fun h => nomatch h) (by exact nl rfl) (by exact rfl) (by exact (an (aF am.nil))) (by exact (ao.cons (bor_val _) (ao.cons (bor_sl _) ao.nil))))
 refine rA ?_ (x := bd (ag := true) (vs := [val _, sl _ _]) eS (by exact tI) (by exact rfl) (by exact nl rfl))
 exact xR
def SV {x : aT}  (hb : bT x ≤ 1048576) : aC prog 281 [(true, [val (vI x.Id), sl .v (x.Values.map ak), val (vI x.WG), val (vI x.WC)])] (az [(true, [val (vI x.Id), sl aa (x.Values.map ak), val (vI x.WG), val (vI x.WC)])]) := by
 refine sF func281 fun h0 w0 Fz0 => ?_
 refine sn 0 1 fun hl0_1 => ?_
 have hbu := hb
 simp only [bT] at hbu
 refine oX ?_
 refine rX ?_ (x := (bR (by decide) eT kh))
 refine sT [1, 2] [1, 2] ?_
 refine rX ?_ (x := (bR (by decide) eT kh))
 refine aP ?_
 refine sC ?_
 refine rA ?_ (x := lF Qd)
 refine rA ?_ (x := lD [val _] au)
 refine rA ?_ (x := lF lQ)
 refine dS ?_
 refine sC ?_
 refine rA ?_ (x := lF JK)
 refine nH ?_
 refine rA ?_ (x := lF i2)
 refine jM ?_
 refine sC ?_
 refine rA ?_ (x := lF Qe)
 refine rA ?_ (x := lD [val _] au)
 refine rA ?_ (x := lF i3)
 refine dS ?_
 refine sC ?_
 refine rA ?_ (x := lF Qf)
 refine rA ?_ (x := lD [val _] au)
 refine rA ?_ (x := lF fR)
 refine dS ?_
 refine sC ?_
 refine rA ?_ (x := cl (ms := [val _, sl _ _, val _, val _]) (qs := [val _, sl .v _, val _, val _]) (by decide) dO (fun h => nomatch h) (by exact nl rfl) (by exact rfl) (by exact (an (aF (an (an am.nil))))) (by exact lq))
 refine Ic ?_
 exact (bj 2 (bj _ (aI (by exact rfl) (aI (by exact rfl) (aI dO (aI (fun h => nomatch h) tI))))))
def SX {p1 p2 p3 : Fl} {x : List cE}  (hb : dJ x ≤ 1048576) : aC prog 119 [(false, [sl .v (x.map (a7 p1 p2 p3))])] (az [(false, [sl bP (x.map (a7 aa aa aa))])]) := by
 refine sF func119 fun h0 w0 Fz0 => ?_
 refine sj 0 fun hl0 => ?_
 have hbu := hb
 simp only [dJ] at hbu
 refine sR ?_
 refine rA ?_ (x := ik (.inr rfl) (by decide) (jf (t := 70) (e := 5)))
 refine mz ?_
 refine rA ?_ (x := lN tq)
 refine rX ?_ (x := (nn (by decide) dY iC rfl oq (by exact tI) (by exact tI) (by exact rfl) (by exact rfl) (by omega) (by omega)))
 refine n9 ?_
 refine sL [0, 2, 3] [] (fun k : Nat => k ≤ x.length) (fun k : Nat => [(4, RV.int (k : Int))]) (fun k : Nat => [(7, (70, (fz x (a7 aa aa aa) [val (.int .i64 0), val (.int .i64 0), sl aa [], sl aa [], sl aa []] k).flatten))]) (fun k : Nat => x.length - k) 0 (by omega) (by exact aI (by exact rfl) tI) (by exact aI (by rw [ng]; exact rfl) tI) ?_
 rintro k hk
 refine cQ ?_
 refine rA ?_ (x := lN tq)
 refine rA ?_ (x := cy)
 refine sc (fun hba => ?_) (fun hba => ?_)
 have hlt : k < x.length := by omega
 have hwm := cR (f := eG) hlt
 refine og ?_
 refine Hy ?_
 refine rA ?_ (x := cL [(true, [val _, val _, sl _ _, sl _ _, sl _ _])] [(true, [val _, val _, sl .v _, sl .v _, sl .v _])] Pu (hs := by exact SS (by omega)))
 refine rA ?_ (x := ee (by decide) dY (by exact tI) (by exact rfl) (by omega))
 refine rA ?_ (x := bd (ag := true) (vs := [val _, val _, sl _ _, sl _ _, sl _ _]) i8 (by exact tI) (by exact rfl) (by exact nk (fun _ => rfl) rfl hlt))
 refine nR ?_
 refine nx (k + 1) (by omega) (f := (by exact aI (by exact congrArg (fun z => some (70, z)) (nj (e := 5) (fun _ => rfl) rfl hlt)) tI))
 have hlt : k = x.length := by omega
 refine nP ?_
 refine rA ?_ (x := nq (es := (x.map (a7 aa aa aa))) (e := 5) (.inl rfl) (by decide) (by rw [hlt, nh]) (by exact ar _) (by intro c hc; obtain ⟨y, _, rfl⟩ := List.mem_map.1 hc; rfl))
 exact ml
def SY {x : Wt}  (hb : ce x ≤ 1048576) : aC prog 120 [(true, [val (vI x.Id), val (vI x.Wx), sl .v (x.Wu.map bf), sl .v (x.Out.map ak)])] (az [(true, [val (vI x.Id), val (vI x.Wx), sl ay (x.Wu.map bf), sl aa (x.Out.map ak)])]) := by
 refine sF func120 fun h0 w0 Fz0 => ?_
 refine sn 0 2 fun hl0_2 => ?_
 refine sn 0 3 fun hl0_3 => ?_
 have hbu := hb
 simp only [ce] at hbu
 refine zQ ?_
 refine sT [1, 2] [1, 2] ?_
 refine rX ?_ (x := (bR (by decide) lZ tv))
 refine aP ?_
 refine u9 ?_
 refine rA ?_ (x := lF Qj)
 refine rA ?_ (x := lD [val _] au)
 refine rA ?_ (x := lF e8)
 refine dS ?_
 refine u9 ?_
 refine rA ?_ (x := lF Qk)
 refine rA ?_ (x := lD [val _] au)
 refine rA ?_ (x := lF i5)
 refine dS ?_
 refine u9 ?_
 refine rA ?_ (x := lF JR)
 refine rA ?_ (x := lD [sl .v _] J2)
 refine rA ?_ (x := cL [(false, [sl _ _])] [(false, [sl .v _])] Pv (hs := by exact SU (by omega)))
 refine Ip ?_
 refine aP ?_
 refine u9 ?_
 refine rA ?_ (x := lF JS)
 refine nH ?_
 refine rA ?_ (x := lF jv)
 refine jM ?_
 refine sO [(1, _), (2, _), (3, _)] [(1, _), (2, _), (3, (52, [val _, val _, sl _ _, sl _ _]))] ?_
 exact Ds
def SZ {x : Wv}  (hb : gC x ≤ 1048576) : aC prog 121 [(true, [val (vI x.Kind), val (vI x.Row.Id), sl .v (x.Row.Values.map ak), val (vI x.Field), val (vI x.Value)])] (az [(true, [val (vI x.Kind), val (vI x.Row.Id), sl aa (x.Row.Values.map ak), val (vI x.Field), val (vI x.Value)])]) := by
 refine sF func121 fun h0 w0 Fz0 => ?_
 refine sn 0 2 fun hl0_2 => ?_
 have hbu := hb
 simp only [gC] at hbu
 refine qG ?_
 refine rX ?_ (x := (bR (by decide) AL AN))
 refine sT [1, 2] [1, 2] ?_
 refine rX ?_ (x := (bR (by decide) AL AN))
 refine aP ?_
 refine sB ?_
 refine rA ?_ (x := lF Qm)
 refine rA ?_ (x := lD [val _] au)
 refine rA ?_ (x := lF kT)
 refine dS ?_
 refine sB ?_
 refine rA ?_ (x := lF JU)
 refine rA ?_ (x := lD [val _, sl .v _] AK)
 refine rA ?_ (x := cL [(true, [val _, sl _ _])] [(true, [val _, sl .v _])] Jx (hs := by exact K0 (by omega)))
 refine rA ?_ (x := lF gF)
 refine rA ?_ (x := bd (ag := true) (vs := [val _, sl _ _]) eS (by exact tI) (by exact rfl) (by exact nl rfl))
 refine aP ?_
 refine sB ?_
 refine rA ?_ (x := lF Qn)
 refine rA ?_ (x := lD [val _] au)
 refine rA ?_ (x := lF lS)
 refine dS ?_
 refine sB ?_
 refine rA ?_ (x := lF Qo)
 refine sW ?_
 refine dS ?_
 refine sB ?_
 refine rA ?_ (x := cl (ms := [val _, val _, sl _ _, val _, val _]) (qs := [val _, val _, sl .v _, val _, val _]) (by decide) kg (fun h => nomatch h) (by exact nl rfl) (by exact rfl) (by exact (an (an (aF (an (an am.nil)))))) (by exact lq))
 refine rA ?_ (x := bd (ag := true) (vs := [val _, val _, sl _ _, val _, val _]) kg (by exact tI) (by exact rfl) (by exact nl rfl))
 refine dR ?_
 exact (bj 2 (bj _ (aI (by exact rfl) (aI (by exact rfl) (aI kg (aI (fun h => nomatch h) tI))))))
def S0 {p1 : Fl} {x : List aT}  (hb : bU x ≤ 1048576) : aC prog 262 [(false, [sl .v (x.map (cG p1))])] (az [(false, [sl aS (x.map (cG aa))])]) := by
 refine sF func262 fun h0 w0 Fz0 => ?_
 refine sj 0 fun hl0 => ?_
 have hbu := hb
 simp only [bU] at hbu
 refine IY ?_
 refine mz ?_
 refine rA ?_ (x := lN tm)
 refine rX ?_ (x := (nn (by decide) ck eT rfl kh (by exact tI) (by exact tI) (by exact rfl) (by exact rfl) (by omega) (by omega)))
 refine n9 ?_
 refine sL [0, 2, 3] [] (fun k : Nat => k ≤ x.length) (fun k : Nat => [(4, RV.int (k : Int))]) (fun k : Nat => [(7, (184, (fz x (cG aa) [val (.int .i64 0), sl aa [], val (.int .i64 0), val (.int .i64 0)] k).flatten))]) (fun k : Nat => x.length - k) 0 (by omega) (by exact aI (by exact rfl) tI) (by exact aI (by rw [ng]; exact rfl) tI) ?_
 rintro k hk
 refine cQ ?_
 refine rA ?_ (x := lN tm)
 refine rA ?_ (x := cy)
 refine sc (fun hba => ?_) (fun hba => ?_)
 have hlt : k < x.length := by omega
 have hwm := cR (f := bT) hlt
 refine og ?_
 refine HF ?_
 refine rA ?_ (x := cL [(true, [val _, sl _ _, val _, val _])] [(true, [val _, sl .v _, val _, val _])] PU (hs := by exact SV (by omega)))
 refine rA ?_ (x := ee (by decide) ck (by exact tI) (by exact rfl) (by omega))
 refine rA ?_ (x := bd (ag := true) (vs := [val _, sl _ _, val _, val _]) dO (by exact tI) (by exact rfl) (by exact nk (fun _ => rfl) rfl hlt))
 refine nR ?_
 refine nx (k + 1) (by omega) (f := (by exact aI (by exact congrArg (fun z => some (184, z)) (nj (e := 4) (fun _ => rfl) rfl hlt)) tI))
 have hlt : k = x.length := by omega
 refine nP ?_
 refine rA ?_ (x := nq (es := (x.map (cG aa))) (e := 4) (.inl rfl) (by decide) (by rw [hlt, nh]) (by exact ar _) (by intro c hc; obtain ⟨y, _, rfl⟩ := List.mem_map.1 hc; rfl))
 exact ml
def S1 {p1 : Fl} {x : List Row}  (hb : dl x ≤ 1048576) : aC prog 263 [(false, [sl .v (x.map (bu p1))])] (az [(false, [sl aB (x.map (bu aa))])]) := by
 refine sF func263 fun h0 w0 Fz0 => ?_
 refine sj 0 fun hl0 => ?_
 have hbu := hb
 simp only [dl] at hbu
 refine zz ?_
 refine mz ?_
 refine rA ?_ (x := lN tl)
 refine rX ?_ (x := (nn (by decide) fG iB rfl kV (by exact tI) (by exact tI) (by exact rfl) (by exact rfl) (by omega) (by omega)))
 refine n9 ?_
 refine sL [0, 2, 3] [] (fun k : Nat => k ≤ x.length) (fun k : Nat => [(4, RV.int (k : Int))]) (fun k : Nat => [(7, (54, (fz x (bu aa) [val (.int .i64 0), sl aa []] k).flatten))]) (fun k : Nat => x.length - k) 0 (by omega) (by exact aI (by exact rfl) tI) (by exact aI (by rw [ng]; exact rfl) tI) ?_
 rintro k hk
 refine cQ ?_
 refine rA ?_ (x := lN tl)
 refine rA ?_ (x := cy)
 refine sc (fun hba => ?_) (fun hba => ?_)
 have hlt : k < x.length := by omega
 have hwm := cR (f := de) hlt
 refine og ?_
 refine HU ?_
 refine rA ?_ (x := cL [(true, [val _, sl _ _])] [(true, [val _, sl .v _])] Jx (hs := by exact K0 (by omega)))
 refine rA ?_ (x := ee (by decide) fG (by exact tI) (by exact rfl) (by omega))
 refine rA ?_ (x := bd (ag := true) (vs := [val _, sl _ _]) eS (by exact tI) (by exact rfl) (by exact nk (fun _ => rfl) rfl hlt))
 refine nR ?_
 refine nx (k + 1) (by omega) (f := (by exact aI (by exact congrArg (fun z => some (54, z)) (nj (e := 2) (fun _ => rfl) rfl hlt)) tI))
 have hlt : k = x.length := by omega
 refine nP ?_
 refine rA ?_ (x := nq (es := (x.map (bu aa))) (e := 2) (.inl rfl) (by decide) (by rw [hlt, nh]) (by exact ar _) (by intro c hc; obtain ⟨y, _, rfl⟩ := List.mem_map.1 hc; rfl))
 exact ml
def A9 {x : eH}  (hb : jO x ≤ 1048576) : aC prog 40 [(true, [val (vI x.Kind), val (vI x.Wt.Id), val (vI x.Wt.Wx), sl .v (x.Wt.Wu.map bf), sl .v (x.Wt.Out.map ak), val (vI x.Limit), val (vI x.Id), val (vI x.Wv.Kind), val (vI x.Wv.Row.Id), sl .v (x.Wv.Row.Values.map ak), val (vI x.Wv.Field), val (vI x.Wv.Value), val (vI x.Steps)])] (az [(true, [val (vI x.Kind), val (vI x.Wt.Id), val (vI x.Wt.Wx), sl ay (x.Wt.Wu.map bf), sl aa (x.Wt.Out.map ak), val (vI x.Limit), val (vI x.Id), val (vI x.Wv.Kind), val (vI x.Wv.Row.Id), sl aa (x.Wv.Row.Values.map ak), val (vI x.Wv.Field), val (vI x.Wv.Value), val (vI x.Steps)])]) := by
 refine sF func40 fun h0 w0 Fz0 => ?_
 refine sn 0 3 fun hl0_3 => ?_
 refine sn 0 4 fun hl0_4 => ?_
 refine sn 0 9 fun hl0_9 => ?_
 have hbu := hb
 simp only [jO] at hbu
 refine so ?_
 refine rX ?_ (x := (bR (by decide) AM AO))
 refine sT [1, 2] [1, 2] ?_
 refine rX ?_ (x := (bR (by decide) AM AO))
 refine aP ?_
 refine oV ?_
 refine rA ?_ (x := lF Qp)
 refine rA ?_ (x := lD [val _] au)
 refine rA ?_ (x := lF wj)
 refine dS ?_
 refine oV ?_
 refine rA ?_ (x := lF JV)
 refine yL ?_
 refine rA ?_ (x := lF AH)
 refine sw ?_
 refine oV ?_
 refine rA ?_ (x := lF Qq)
 refine rA ?_ (x := lD [val _] au)
 refine rA ?_ (x := lF pM)
 refine dS ?_
 refine oV ?_
 refine rA ?_ (x := lF Qr)
 refine rA ?_ (x := lD [val _] au)
 refine rA ?_ (x := lF lT)
 refine dS ?_
 refine oV ?_
 refine IX ?_
 refine rA ?_ (x := cL [(true, [val _, val _, sl _ _, val _, val _])] [(true, [val _, val _, sl .v _, val _, val _])] OS (hs := by exact SZ (by omega)))
 refine rA ?_ (x := lF pN)
 refine rA ?_ (x := bd (ag := true) (vs := [val _, val _, sl _ _, val _, val _]) kg (by exact tI) (by exact rfl) (by exact nl rfl))
 refine aP ?_
 refine oV ?_
 refine rA ?_ (x := lF Qt)
 refine rA ?_ (x := lD [val _] au)
 refine rA ?_ (x := lF mQ)
 refine dS ?_
 refine oV ?_
 refine rA ?_ (x := cl (ms := [val _, val _, val _, sl _ _, sl _ _, val _, val _, val _, val _, sl _ _, val _, val _, val _]) (qs := [val _, val _, val _, sl .v _, sl .v _, val _, val _, val _, val _, sl .v _, val _, val _, val _]) (by decide) mR (fun h => nomatch h) (by exact nl rfl) (by exact rfl) (by exact (an (an (an (aF (aF (an (an (an (an (aF (an (an (an am.nil)))))))))))))) (by exact lq))
 refine rA ?_ (x := bd (ag := true) (vs := [val _, val _, val _, sl _ _, sl _ _, val _, val _, val _, val _, sl _ _, val _, val _, val _]) mR (by exact tI) (by exact rfl) (by exact nl rfl))
 refine dR ?_
 exact (bj 2 (bj _ (aI (by exact rfl) (aI (by exact rfl) (aI mR (aI (fun h => nomatch h) tI))))))
def S2 {p1 p2 : Fl} {x : List (List aT)}  (hb : eh x ≤ 1048576) : aC prog 209 [(false, [sl .v (x.map (aD p1 p2))])] (az [(false, [sl bo (x.map (aD aS aa))])]) := by
 refine sF func209 fun h0 w0 Fz0 => ?_
 refine sj 0 fun hl0 => ?_
 have hbu := hb
 simp only [eh] at hbu
 refine sR ?_
 refine rA ?_ (x := ik (.inr rfl) (by decide) (jf (t := 139) (e := 1)))
 refine mz ?_
 refine rA ?_ (x := lN tn)
 refine rX ?_ (x := (nn (by decide) cV tt rfl QE (by exact tI) (by exact tI) (by exact rfl) (by exact rfl) (by omega) (by omega)))
 refine n9 ?_
 refine sL [0, 2, 3] [] (fun k : Nat => k ≤ x.length) (fun k : Nat => [(4, RV.int (k : Int))]) (fun k : Nat => [(7, (139, (fz x (aD aS aa) [sl aS []] k).flatten))]) (fun k : Nat => x.length - k) 0 (by omega) (by exact aI (by exact rfl) tI) (by exact aI (by rw [ng]; exact rfl) tI) ?_
 rintro k hk
 refine cQ ?_
 refine rA ?_ (x := lN tn)
 refine rA ?_ (x := cy)
 refine sc (fun hba => ?_) (fun hba => ?_)
 have hlt : k < x.length := by omega
 have hwm := cR (f := bU) hlt
 refine og ?_
 refine H1 ?_
 refine rA ?_ (x := cL [(false, [sl _ _])] [(false, [sl .v _])] PK (hs := by exact S0 (by omega)))
 refine rA ?_ (x := ee (by decide) cV (by exact tI) (by exact rfl) (by omega))
 refine rA ?_ (x := bd (ag := false) (vs := [sl _ _]) fH (by exact tI) (by exact rfl) (by exact nk (fun _ => rfl) rfl hlt))
 refine nR ?_
 refine nx (k + 1) (by omega) (f := (by exact aI (by exact congrArg (fun z => some (139, z)) (nj (e := 1) (fun _ => rfl) rfl hlt)) tI))
 have hlt : k = x.length := by omega
 refine nP ?_
 refine rA ?_ (x := nq (es := (x.map (aD aS aa))) (e := 1) (.inl rfl) (by decide) (by rw [hlt, nh]) (by exact ar _) (by intro c hc; obtain ⟨y, _, rfl⟩ := List.mem_map.1 hc; rfl))
 exact ml
def S3 {p4 : Fl} {x : Ws}  (hb : bW x ≤ 1048576) : aC prog 210 [(true, [val (vI x.Wt.Id), val (vI x.Wt.Wx), sl .v (x.Wt.Wu.map bf), sl .v (x.Wt.Out.map ak), val (vI x.Time), sl .v (x.WB.map ak), val (vI x.Age), val (vI x.Sent), val (vI x.Cap), sl .v (x.Rows.map (bu p4))])] (az [(true, [val (vI x.Wt.Id), val (vI x.Wt.Wx), sl ay (x.Wt.Wu.map bf), sl aa (x.Wt.Out.map ak), val (vI x.Time), sl aa (x.WB.map ak), val (vI x.Age), val (vI x.Sent), val (vI x.Cap), sl aB (x.Rows.map (bu aa))])]) := by
 refine sF func210 fun h0 w0 Fz0 => ?_
 refine sn 0 2 fun hl0_2 => ?_
 refine sn 0 3 fun hl0_3 => ?_
 refine sn 0 5 fun hl0_5 => ?_
 refine sn 0 9 fun hl0_9 => ?_
 have hbu := hb
 simp only [bW] at hbu
 refine sr ?_
 refine rX ?_ (x := (bR (by decide) fa l2))
 refine sT [1, 2] [1, 2] ?_
 refine rX ?_ (x := (bR (by decide) fa l2))
 refine aP ?_
 refine oY ?_
 refine rA ?_ (x := lF JC)
 refine yL ?_
 refine rA ?_ (x := lF eR)
 refine sw ?_
 refine oY ?_
 refine rA ?_ (x := lF P0)
 refine rA ?_ (x := lD [val _] au)
 refine rA ?_ (x := lF lP)
 refine dS ?_
 refine oY ?_
 refine rA ?_ (x := lF JD)
 refine nH ?_
 refine rA ?_ (x := lF gD)
 refine jM ?_
 refine oY ?_
 refine rA ?_ (x := lF P3)
 refine rA ?_ (x := lD [val _] au)
 refine vE ?_
 refine oY ?_
 refine rA ?_ (x := lF P4)
 refine rA ?_ (x := lD [val _] au)
 refine rA ?_ (x := lF jp)
 refine dS ?_
 refine oY ?_
 refine rA ?_ (x := lF P5)
 refine rA ?_ (x := lD [val _] au)
 refine rA ?_ (x := lF kQ)
 refine dS ?_
 refine oY ?_
 refine rA ?_ (x := lF JE)
 refine Iz ?_
 refine zc ?_
 refine aP ?_
 refine sO [(1, _), (2, _), (3, _)] [(1, _), (2, _), (3, (108, [val _, val _, sl _ _, sl _ _, val _, sl _ _, val _, val _, val _, sl _ _]))] ?_
 exact Dt
def S4 {p3 : Fl} {x : cu}  (hb : d9 x ≤ 1048576) : aC prog 211 [(true, [val (vI x.Wt.Id), val (vI x.Wt.Wx), sl .v (x.Wt.Wu.map bf), sl .v (x.Wt.Out.map ak), val (vI x.Time), val (vI x.Steps), sl .v (x.Rows.map (bu p3))])] (az [(true, [val (vI x.Wt.Id), val (vI x.Wt.Wx), sl ay (x.Wt.Wu.map bf), sl aa (x.Wt.Out.map ak), val (vI x.Time), val (vI x.Steps), sl aB (x.Rows.map (bu aa))])]) := by
 refine sF func211 fun h0 w0 Fz0 => ?_
 refine sn 0 2 fun hl0_2 => ?_
 refine sn 0 3 fun hl0_3 => ?_
 refine sn 0 6 fun hl0_6 => ?_
 have hbu := hb
 simp only [d9] at hbu
 refine uV ?_
 refine rX ?_ (x := (bR (by decide) jS pQ))
 refine sT [1, 2] [1, 2] ?_
 refine rX ?_ (x := (bR (by decide) jS pQ))
 refine aP ?_
 refine uZ ?_
 refine rA ?_ (x := lF JF)
 refine yL ?_
 refine rA ?_ (x := lF lU)
 refine sw ?_
 refine uZ ?_
 refine rA ?_ (x := lF P6)
 refine rA ?_ (x := lD [val _] au)
 refine rA ?_ (x := lF pO)
 refine dS ?_
 refine uZ ?_
 refine rA ?_ (x := lF P7)
 refine rA ?_ (x := lD [val _] au)
 refine rA ?_ (x := lF pP)
 refine dS ?_
 refine uZ ?_
 refine rA ?_ (x := lF JG)
 refine Iz ?_
 refine Iq ?_
 refine aP ?_
 refine sO [(1, _), (2, _), (3, _)] [(1, _), (2, _), (3, (63, [val _, val _, sl _ _, sl _ _, val _, val _, sl _ _]))] ?_
 exact Du
def S5 {p1 p2 : Fl} {x : Store}  (hb : b4 x ≤ 1048576) : aC prog 115 [(true, [sl .v (x.Wr.map (aD p1 p2)), val (vI x.Now)])] (az [(true, [sl bo (x.Wr.map (aD aS aa)), val (vI x.Now)])]) := by
 refine sF func115 fun h0 w0 Fz0 => ?_
 refine sn 0 0 fun hl0_0 => ?_
 have hbu := hb
 simp only [b4] at hbu
 refine iU ?_
 refine zB ?_
 refine rX ?_ (x := (bR (by decide) rq rr))
 refine aP ?_
 refine sE ?_
 refine rA ?_ (x := lF JL)
 refine rA ?_ (x := lD [sl .v _] JX)
 refine rA ?_ (x := cL [(false, [sl _ _])] [(false, [sl .v _])] Pr (hs := by exact S2 (by omega)))
 refine Ir ?_
 refine aP ?_
 refine sE ?_
 refine rA ?_ (x := lF Qg)
 refine rA ?_ (x := lD [val _] au)
 refine vG ?_
 refine sE ?_
 refine oT ?_
 refine dR ?_
 exact (bj 2 (bj _ (aI (by exact rfl) (aI (by exact rfl) (aI dv (aI (fun h => nomatch h) tI))))))
def S6 {p1 p2 p3 p4 p5 : Fl} {x : List Ws}  (hb : c6 x ≤ 1048576) : aC prog 117 [(false, [sl .v (x.map (aO p1 p2 p3 p4 p5))])] (az [(false, [sl bS (x.map (aO ay aa aa aB aa))])]) := by
 refine sF func117 fun h0 w0 Fz0 => ?_
 refine sj 0 fun hl0 => ?_
 have hbu := hb
 simp only [c6] at hbu
 refine sR ?_
 refine rA ?_ (x := ik (.inr rfl) (by decide) (jf (t := 108) (e := 10)))
 refine mz ?_
 refine rA ?_ (x := lN to)
 refine rX ?_ (x := (nn (by decide) bI fa rfl l2 (by exact tI) (by exact tI) (by exact rfl) (by exact rfl) (by omega) (by omega)))
 refine n9 ?_
 refine sL [0, 2, 3] [] (fun k : Nat => k ≤ x.length) (fun k : Nat => [(4, RV.int (k : Int))]) (fun k : Nat => [(7, (108, (fz x (aO ay aa aa aB aa) [val (.int .i64 0), val (.int .i64 0), sl ay [], sl aa [], val (.int .i64 0), sl aa [], val (.int .i64 0), val (.int .i64 0), val (.int .i64 0), sl aB []] k).flatten))]) (fun k : Nat => x.length - k) 0 (by omega) (by exact aI (by exact rfl) tI) (by exact aI (by rw [ng]; exact rfl) tI) ?_
 rintro k hk
 refine cQ ?_
 refine rA ?_ (x := lN to)
 refine rA ?_ (x := cy)
 refine sc (fun hba => ?_) (fun hba => ?_)
 have hlt : k < x.length := by omega
 have hwm := cR (f := bW) hlt
 refine og ?_
 refine Ha ?_
 refine rA ?_ (x := cL [(true, [val _, val _, sl _ _, sl _ _, val _, sl _ _, val _, val _, val _, sl _ _])] [(true, [val _, val _, sl .v _, sl .v _, val _, sl .v _, val _, val _, val _, sl .v _])] Ps (hs := by exact S3 (by omega)))
 refine rA ?_ (x := ee (by decide) bI (by exact tI) (by exact rfl) (by omega))
 refine rA ?_ (x := bd (ag := true) (vs := [val _, val _, sl _ _, sl _ _, val _, sl _ _, val _, val _, val _, sl _ _]) fj (by exact tI) (by exact rfl) (by exact nk (fun _ => rfl) rfl hlt))
 refine nR ?_
 refine nx (k + 1) (by omega) (f := (by exact aI (by exact congrArg (fun z => some (108, z)) (nj (e := 10) (fun _ => rfl) rfl hlt)) tI))
 have hlt : k = x.length := by omega
 refine nP ?_
 refine rA ?_ (x := nq (es := (x.map (aO ay aa aa aB aa))) (e := 10) (.inl rfl) (by decide) (by rw [hlt, nh]) (by exact ar _) (by intro c hc; obtain ⟨y, _, rfl⟩ := List.mem_map.1 hc; rfl))
 exact ml
def S7 {p1 p2 p3 p4 : Fl} {x : List cu}  (hb : dK x ≤ 1048576) : aC prog 118 [(false, [sl .v (x.map (aZ p1 p2 p3 p4))])] (az [(false, [sl bM (x.map (aZ ay aa aB aa))])]) := by
 refine sF func118 fun h0 w0 Fz0 => ?_
 refine sj 0 fun hl0 => ?_
 have hbu := hb
 simp only [dK] at hbu
 refine sR ?_
 refine rA ?_ (x := ik (.inr rfl) (by decide) (jf (t := 63) (e := 7)))
 refine mz ?_
 refine rA ?_ (x := lN tp)
 refine rX ?_ (x := (nn (by decide) ez jS rfl pQ (by exact tI) (by exact tI) (by exact rfl) (by exact rfl) (by omega) (by omega)))
 refine n9 ?_
 refine sL [0, 2, 3] [] (fun k : Nat => k ≤ x.length) (fun k : Nat => [(4, RV.int (k : Int))]) (fun k : Nat => [(7, (63, (fz x (aZ ay aa aB aa) [val (.int .i64 0), val (.int .i64 0), sl ay [], sl aa [], val (.int .i64 0), val (.int .i64 0), sl aB []] k).flatten))]) (fun k : Nat => x.length - k) 0 (by omega) (by exact aI (by exact rfl) tI) (by exact aI (by rw [ng]; exact rfl) tI) ?_
 rintro k hk
 refine cQ ?_
 refine rA ?_ (x := lN tp)
 refine rA ?_ (x := cy)
 refine sc (fun hba => ?_) (fun hba => ?_)
 have hlt : k < x.length := by omega
 have hwm := cR (f := d9) hlt
 refine og ?_
 refine Hm ?_
 refine rA ?_ (x := cL [(true, [val _, val _, sl _ _, sl _ _, val _, val _, sl _ _])] [(true, [val _, val _, sl .v _, sl .v _, val _, val _, sl .v _])] Pt (hs := by exact S4 (by omega)))
 refine rA ?_ (x := ee (by decide) ez (by exact tI) (by exact rfl) (by omega))
 refine rA ?_ (x := bd (ag := true) (vs := [val _, val _, sl _ _, sl _ _, val _, val _, sl _ _]) lY (by exact tI) (by exact rfl) (by exact nk (fun _ => rfl) rfl hlt))
 refine nR ?_
 refine nx (k + 1) (by omega) (f := (by exact aI (by exact congrArg (fun z => some (63, z)) (nj (e := 7) (fun _ => rfl) rfl hlt)) tI))
 have hlt : k = x.length := by omega
 refine nP ?_
 refine rA ?_ (x := nq (es := (x.map (aZ ay aa aB aa))) (e := 7) (.inl rfl) (by decide) (by rw [hlt, nh]) (by exact ar _) (by intro c hc; obtain ⟨y, _, rfl⟩ := List.mem_map.1 hc; rfl))
 exact ml
def Ba {p1 p2 p5 p6 p7 p8 p9 p11 p12 p13 p14 p16 p17 p18 : Fl} {x : aL}  (hb : bp x ≤ 1048576) : aC prog 39 [(true, [sl .v (x.Store.Wr.map (aD p1 p2)), val (vI x.Store.Now), val (vI x.Ww), sl .v (x.Order.map ak), sl .v (x.Ws.map (aO p5 p6 p7 p8 p9)), sl .v (x.Done.map (aZ p11 p12 p13 p14)), sl .v (x.WE.map (a7 p16 p17 p18)), val (vI x.Steps)])] (az [(true, [sl bo (x.Store.Wr.map (aD aS aa)), val (vI x.Store.Now), val (vI x.Ww), sl aa (x.Order.map ak), sl bS (x.Ws.map (aO ay aa aa aB aa)), sl bM (x.Done.map (aZ ay aa aB aa)), sl bP (x.WE.map (a7 aa aa aa)), val (vI x.Steps)])]) := by
 refine sF func39 fun h0 w0 Fz0 => ?_
 refine sn 0 0 fun hl0_0 => ?_
 refine sn 0 3 fun hl0_3 => ?_
 refine sn 0 4 fun hl0_4 => ?_
 refine sn 0 5 fun hl0_5 => ?_
 refine sn 0 6 fun hl0_6 => ?_
 have hbu := hb
 simp only [bp] at hbu
 refine qK ?_
 refine sT [1, 2] [1, 2] ?_
 refine rX ?_ (x := (bR (by decide) jR jT))
 refine aP ?_
 refine mx ?_
 refine rA ?_ (x := lF JM)
 refine rA ?_ (x := lD [sl .v _, val _] JY)
 refine rA ?_ (x := cL [(true, [sl _ _, val _])] [(true, [sl .v _, val _])] OM (hs := by exact S5 (by omega)))
 refine sx ?_
 refine aP ?_
 refine mx ?_
 refine rA ?_ (x := lF Qh)
 refine rA ?_ (x := lD [val _] au)
 refine rA ?_ (x := lF i4)
 refine dS ?_
 refine mx ?_
 refine rA ?_ (x := lF JN)
 refine nH ?_
 refine rA ?_ (x := lF lR)
 refine jM ?_
 refine mx ?_
 refine rA ?_ (x := lF JO)
 refine rA ?_ (x := lD [sl .v _] JZ)
 refine rA ?_ (x := cL [(false, [sl _ _])] [(false, [sl .v _])] OO (hs := by exact S6 (by omega)))
 refine oU ?_
 refine aP ?_
 refine mx ?_
 refine rA ?_ (x := lF JP)
 refine rA ?_ (x := lD [sl .v _] J0)
 refine rA ?_ (x := cL [(false, [sl _ _])] [(false, [sl .v _])] OP (hs := by exact S7 (by omega)))
 refine zd ?_
 refine aP ?_
 refine mx ?_
 refine rA ?_ (x := lF JQ)
 refine rA ?_ (x := lD [sl .v _] J1)
 refine rA ?_ (x := cL [(false, [sl _ _])] [(false, [sl .v _])] OQ (hs := by exact SX (by omega)))
 refine Is ?_
 refine aP ?_
 refine mx ?_
 refine rA ?_ (x := lF Qi)
 refine rA ?_ (x := lD [val _] au)
 refine rA ?_ (x := lF ju)
 refine dS ?_
 refine sO [(1, _), (2, _), (3, _)] [(1, _), (2, _), (3, (32, [sl _ _, val _, val _, sl _ _, sl _ _, sl _ _, sl _ _, val _]))] ?_
 exact Dv
end Go.Proofs.YtmekkgdboplbjaaGreat
