/- What functions of the program compute. No condition. -/
import Derived.Test.YtmekkgdboplbjaaGreatDoorCQ1
import Derived.Test.YtmekkgdboplbjaaGreatDoorCJ0
set_option linter.all false
namespace Go.Proofs.YtmekkgdboplbjaaGreatDoor
open Go Go.RowKit M PV Tryz
set_option maxRecDepth 10000
attribute [local irreducible] PV.Lcl PV.LclR RV.Lcl
def Yt {ws : List bW}  (hn : ws.length ≤ 1048576) (hl : (dD ws [32]).length ≤ 140737488355328) : aN prog 84 [(false, [sl .v (ws.map kD)])] (aF [(false, [val (.string (B (uw ws)))])]) := by
 refine sF func84 fun h0 w0 Fz0 => ?_
 refine sj 0 fun hl0 => ?_
 refine lM ?_
 refine pS ?_
 refine rA ?_ (x := lN ji)
 refine rA ?_ (x := fb)
 refine sc (fun hba => ?_) (fun hba => ?_)
 have he : ws = [] := gu (by omega)
 refine sS [0, 2] [] ?_
 refine cC ?_
 exact (aI (by refine hE ?_; exact iE (by rw [he]; rfl)) tI)
 have he : ws ≠ [] := by intro e; subst e; simp at hba
 refine bc ?_
 refine pS ?_
 refine rA ?_ (x := cL [(false, [sl _ _]), (false, [val _])] [(false, [sl .v _]), (false, [val _])] xg (hs := by exact (xt (by omega) hl)))
 refine df ?_
 exact (aI (by refine hE ?_; exact iE (Nr he).symm) tI)
def Yu {q : ZG} {r : Row}  : aN prog 89 [(true, [val (vI q.Id), val (vI q.ZK), sl .v (q.ZH.map dj), sl .v (q.Out.map an)]), (true, [val (vI r.Id), sl .v (r.Values.map an)])] (aF [(false, [sl ae ((ng q r).map an)])]) := by
 refine sF func89 fun h0 w0 Fz0 => ?_
 refine sn 0 2 fun hl0_2 => ?_
 refine sn 0 3 fun hl0_3 => ?_
 refine sn 1 1 fun hl1_1 => ?_
 refine qY ?_
 refine zK ?_
 refine sT [2, 3, 4] [2, 3] ?_
 refine nE ?_
 refine sS [2, 3, 4, 5] [2, 3] ?_
 refine zG ?_
 refine gk ?_
 refine cx 12 (fun ga sga => ?_) (fun ga sga => ?_)
 refine mz ?_
 exact GZ
 refine rB ga ?_ (x := lD [val _, sl .v _] gB)
 refine rB ga ?_ (x := cL [(true, [val _, sl _ _])] [(true, [val _, sl .v _])] AK (hs := by exact BE))
 refine rB ga ?_ (x := nT)
 refine rA ?_ (x := aH ga)
 refine sc (fun hba => ?_) (fun hba => ?_)
 exact GZ
 have hok : bp r = true ∧ bG q = true := by simp_all
 obtain ⟨hi0, hi1, hvl, hv⟩ := ox hok.1
 have hou := CF hok.2
 refine eA ?_
 refine sS [2, 3, 4, 5] [2, 3] ?_
 refine wu ?_
 refine eK ?_
 refine sP [2, 3, 4, 5, 19, 20, 21] [2, 3] ?_
 refine sL [2, 3, 4, 19, 20] [2, 3] (fun k : Nat => k ≤ q.Out.length) (fun k : Nat => [(5, RV.slc ae (((q.Out.take k).map fun f => r.Values.getD f.toNat 0).map an)), (21, RV.int (k : Int))]) (fun k : Nat => []) (fun k : Nat => q.Out.length - k) 0 (by omega) (by exact aI (by first | exact rfl | simp) (aI (by exact rfl) tI)) (by exact tI) ?_
 rintro k hk
 refine eL ?_
 refine sc (fun hbb => ?_) (fun hbb => ?_)
 have hlt : k < q.Out.length := by first | omega | (simp_all; done) | (simp_all; omega)
 have hof := hou.2 q.Out[k] (List.getElem_mem hlt)
 have hfl : q.Out[k].toNat < r.Values.length := by omega
 have hmt : ((q.Out.take k).map fun f => r.Values.getD f.toNat 0).length = k := by rw [am, bg]; omega
 have hmt2 : (q.Out.take k).length = k := by rw [bg]; omega
 refine bw ?_
 refine sT [2, 3, 4, 5, 19, 20, 21] [2, 3] ?_
 refine nF ?_
 refine sG [2, 3, 4, 5, 7, 19, 20, 21] [2, 3] ?_
 refine rA ?_ (x := tM)
 refine rA ?_ (x := lF ia)
 refine wm ?_
 refine rA ?_ (x := aU (k := q.Out[k].toNat) (by decide) aW (by exact tI) (by omega) (by exact aV hfl rfl) (by exact rfl))
 refine rA ?_ (x := lE [val _] aw)
 refine nB ?_
 refine sG [2, 3, 4, 5, 7, 19, 20, 21] [2, 3] ?_
 refine fc ?_
 refine nx (k + 1) (by omega) (e := (by exact aI (by exact bI (by rw [kC hlt, bb]; simp only [List.map_cons, List.map_nil]; rw [← cU hfl]; rfl)) (aI (by exact rfl) tI)))
 have hend : k = q.Out.length := by omega
 refine bE ?_
 refine sT [2, 3, 4, 5, 19, 20, 21] [2, 3] ?_
 refine gz ?_
 exact (aI (by refine bI ?_; unfold ng; rw [if_pos (by rw [hok.1, hok.2]; rfl), hend, bY]) tI)
def Yv {q : ZG} {r : Row}  : aN prog 93 [(true, [val (vI q.Id), val (vI q.ZK), sl .v (q.ZH.map dj), sl .v (q.Out.map an)]), (true, [val (vI r.Id), sl .v (r.Values.map an)])] (aF [(false, [sl ae ((ng q r).map an)])]) := by
 refine sF func93 fun h0 w0 Fz0 => ?_
 refine sn 0 2 fun hl0_2 => ?_
 refine sn 0 3 fun hl0_3 => ?_
 refine sn 1 1 fun hl1_1 => ?_
 refine qY ?_
 refine zK ?_
 refine sT [2, 3, 4] [2, 3] ?_
 refine nE ?_
 refine sS [2, 3, 4, 5] [2, 3] ?_
 refine de ?_
 refine sP [2, 3, 4, 5, 6] [2, 3] ?_
 refine sL [2, 3, 4] [2, 3] (fun k : Nat => k ≤ q.Out.length ∧ (0 < k → bp r = true ∧ bG q = true)) (fun k : Nat => [(5, RV.slc ae (((q.Out.take k).map fun f => r.Values.getD f.toNat 0).map an)), (6, RV.int (k : Int))]) (fun k : Nat => []) (fun k : Nat => q.Out.length - k) 0 (by exact ⟨by omega, fun h => absurd h (Nat.lt_irrefl 0)⟩) (by exact aI (by first | exact rfl | simp) (aI (by exact rfl) tI)) (by exact tI) ?_
 rintro k ⟨hk, ha⟩
 refine cI ?_
 refine wu ?_
 refine rA ?_ (x := dZ)
 refine rM ?_
 refine cx 13 (fun ga sga => ?_) (fun ga sga => ?_)
 refine rB ga ?_ (x := lD [val _, sl .v _] gB)
 refine rB ga ?_ (x := cL [(true, [val _, sl _ _])] [(true, [val _, sl .v _])] tS (hs := by exact uk))
 refine nA ?_
 refine cx 17 (fun gb sgb => ?_) (fun gb sgb => ?_)
 refine rB gb ?_ (x := lD [val _, val _, sl .v _, sl .v _] fh)
 refine rB gb ?_ (x := cL [(true, [val _, val _, sl _ _, sl _ _])] [(true, [val _, val _, sl .v _, sl .v _])] wM (hs := by exact xr))
 refine rA ?_ (x := aK gb)
 refine sc (fun hba => ?_) (fun hba => ?_)
 have hok : bp r = true ∧ bG q = true := by simp_all
 obtain ⟨hi0, hi1, hvl, hv⟩ := ox hok.1
 have hou := CF hok.2
 have hlt : k < q.Out.length := by first | omega | (simp_all; done) | (simp_all; omega)
 have hof := hou.2 q.Out[k] (List.getElem_mem hlt)
 have hfl : q.Out[k].toNat < r.Values.length := by omega
 have hmt : ((q.Out.take k).map fun f => r.Values.getD f.toNat 0).length = k := by rw [am, bg]; omega
 have hmt2 : (q.Out.take k).length = k := by rw [bg]; omega
 refine bw ?_
 refine sQ [2, 3, 4, 5, 6] [2, 3] ?_
 refine tw ?_
 refine dA 0 ?_ (x := lF ia)
 refine dA 2 ?_ (x := lD [sl .v _] bz)
 refine dA 0 ?_ (x := lF oT)
 refine dA 8 ?_ (x := lD [sl .v _] bz)
 refine dA 0 ?_ (x := sM)
 refine dA 56 ?_ (x := aU (by decide) aW (by exact tI) (by exact rfl) (by exact aV (by omega) rfl) (by exact rfl))
 refine dA 120 ?_ (x := lE [val _] aw)
 refine dA 254 ?_ (x := aU (k := q.Out[k].toNat) (by decide) aW (by exact tI) (by omega) (by exact aV hfl rfl) (by exact rfl))
 refine dA 510 ?_ (x := lE [val _] aw)
 refine dA 1022 ?_ (x := bm (qs := [(false, [val _])]) (by decide) aW bX (by decide) rfl rfl rfl rfl rfl (by exact nl rfl) (by exact (aI (by exact tI) tI)) rfl)
 refine dA 2047 ?_ (x := dy (by decide) aW bX rfl rfl (by decide) rfl (by simp only [am, aD, List.length_cons, List.length_nil]; omega) (by simp only [am, aD, List.length_cons, List.length_nil]; omega))
 refine dA 4095 ?_ (x := tA)
 refine sG [2, 3, 4, 5, 6] [2, 3] ?_
 refine ca ?_
 refine nx (k + 1) (by exact ⟨by omega, fun _ => hok⟩) (e := (by exact aI (by exact bI (by rw [kC hlt, bb]; simp only [List.map_cons, List.map_nil]; rw [← cU hfl]; rfl)) (aI (by exact rfl) tI)))
 exact zj
 refine oF ?_
 refine eJ ?_
 exact zj
 refine kx ?_
 refine az.cases (s := 17) rfl (fun g5 => nomatch g5) (fun g5 => ?_)
 refine zf g5 ?_
 refine rA ?_ (x := aH g5)
 refine eJ ?_
 exact zj
def Yw {p3 : Fl} {x : eE}  : iu prog gl 27 [(true, [val (vI x.ZG.Id), val (vI x.ZG.ZK), sl .v (x.ZG.ZH.map dj), sl .v (x.ZG.Out.map an), val (vI x.Time), val (vI x.Steps), sl .v (x.Rows.map (dt p3))])] (aF [(false, [val (.string (B (se x)))])]) := by
 refine nt (rs := [(false, [val (.string (B (se x)))])]) func27 rfl (nl rfl) (by exact lq) ?_
 intro h0 w0 Fz0
 refine sn 0 2 fun hl0_2 => ?_
 refine sn 0 3 fun hl0_3 => ?_
 refine sn 0 6 fun hl0_6 => ?_
 refine Jr ?_
 refine eD ?_
 refine sT [1, 2, 7000] [1] ?_
 refine rA ?_ (x := lF pi)
 refine zG ?_
 refine gk ?_
 refine cx 10 (fun ga sga => ?_) (fun ga sga => ?_)
 refine mz ?_
 exact Hb
 refine rB ga ?_ (x := lF mO)
 refine rB ga ?_ (x := lD [sl .v _] gV)
 refine rB ga ?_ (x := cL [(false, [sl _ _])] [(false, [sl .v _])] Bw (hs := by exact BF))
 refine rB ga ?_ (x := nT)
 refine rA ?_ (x := aH ga)
 refine sc (fun hba => ?_) (fun hba => ?_)
 exact Hb
 have hok : bG x.ZG = true ∧ fg x.Rows = true := by simp_all
 have hrl := CI hok.2
 refine bc ?_
 refine sS [1, 2, 7000] [1] ?_
 refine tf ?_
 refine sS [1, 2, 3, 7000] [1] ?_
 refine rA ?_ (x := lF mO)
 refine rA ?_ (x := lD [sl .v _] gV)
 refine rA ?_ (x := lN fQ)
 refine eK ?_
 refine sP [1, 2, 3, 18, 19, 20, 7000] [1] ?_
 refine sL [1, 2, 18, 19, 7000] [1] (fun k : Nat => k ≤ x.Rows.length) (fun k : Nat => [(3, RV.slc nk (((x.Rows.take k).map (jw x.ZG)).map kD)), (20, RV.int (k : Int))]) (fun k : Nat => []) (fun k : Nat => x.Rows.length - k) 0 (by omega) (by exact aI (by first | exact rfl | simp) (aI (by exact rfl) tI)) (by exact tI) ?_
 rintro k hk
 refine eL ?_
 refine sc (fun hbb => ?_) (fun hbb => ?_)
 have hlt : k < x.Rows.length := by omega
 have hrk := CH hok.2 (List.getElem_mem hlt)
 obtain ⟨hi0, hi1, hvl, hv⟩ := ox hrk
 have hil : (itoa x.Rows[k].Id).length ≤ 21 := cy (by unfold aQ; omega)
 have hpj := CG x.ZG x.Rows[k]
 have hpl := pb hpj.2
 have hmt : ((x.Rows.take k).map (jw x.ZG)).length = k := by rw [am, bg]; omega
 have hjl := CJ (q := x.ZG) hok.2 k
 have htk : (x.Rows.take k).length = k := by rw [bg]; omega
 refine bw ?_
 refine sT [1, 2, 3, 18, 19, 20, 7000] [1] ?_
 refine vQ ?_
 refine vO ?_
 refine sO [(1, _), (2, _), (3, _), (5, _), (18, _), (19, _), (20, _), (7000, _)] [(1, _), (5, (27, [val _, sl _ _]))] ?_
 refine tw ?_
 refine dA 0 ?_ (x := lF jO)
 refine dA 2 ?_ (x := lD [val _] aw)
 refine dA 6 ?_ (x := gL [(false, [val _])] [(false, [val _])] iM (hs := by exact (iQ (by unfold aQ; omega))))
 refine dA 14 ?_ (x := dN)
 refine dA 0 ?_ (x := lF pi)
 refine dA 32 ?_ (x := lD [val _, val _, sl .v _, sl .v _] fh)
 refine dA 0 ?_ (x := lD [val _, sl .v _] gB)
 refine dA 238 ?_ (x := cL [(true, [val _, val _, sl _ _, sl _ _]), (true, [val _, sl _ _])] [(true, [val _, val _, sl .v _, sl .v _]), (true, [val _, sl .v _])] TF (hs := by exact Yu))
 refine dA 494 ?_ (x := gL [(false, [sl _ _])] [(false, [sl .v _])] Lh (hs := by exact (LI hpj.2 (by omega))))
 refine dA 1022 ?_ (x := dN)
 refine dA 2046 ?_ (x := bm (qs := [(false, [val _])]) (by decide) ji oh (by decide) rfl rfl rfl rfl rfl (by exact nl rfl) (by exact (aI (by exact tI) tI)) rfl)
 refine dA 4095 ?_ (x := dy (by decide) ji oh rfl rfl (by decide) rfl (by simp only [am, aD, List.length_cons, List.length_nil]; omega) (by simp only [am, aD, List.length_cons, List.length_nil]; omega))
 refine dA 8191 ?_ (x := tA)
 refine sG [1, 2, 3, 5, 18, 19, 20, 7000] [1, 5] ?_
 refine fc ?_
 refine nx (k + 1) (by omega) (e := (by exact aI (by exact bI (by rw [kC hlt, bb]; rfl)) (aI (by exact rfl) tI)))
 have hend : k = x.Rows.length := by omega
 have hjl := CJ (q := x.ZG) hok.2 k
 subst hend
 rw [bY] at hjl ⊢
 have hml : (x.Rows.map (jw x.ZG)).length = x.Rows.length := am _
 refine bE ?_
 refine sT [1, 2, 3, 18, 19, 20, 7000] [1] ?_
 refine IW ?_
 refine df ?_
 exact (aI (by refine hE ?_; exact iE (by unfold se; rw [if_pos (by rw [hok.1, hok.2]; rfl)])) tI)
def Yx {p3 : Fl} {x : eE}  : aN prog 28 [(true, [val (vI x.ZG.Id), val (vI x.ZG.ZK), sl .v (x.ZG.ZH.map dj), sl .v (x.ZG.Out.map an), val (vI x.Time), val (vI x.Steps), sl .v (x.Rows.map (dt p3))])] (aF [(false, [val (.string (B (se x)))])]) := by
 refine sF func28 fun h0 w0 Fz0 => ?_
 refine sn 0 2 fun hl0_2 => ?_
 refine sn 0 3 fun hl0_3 => ?_
 refine sn 0 6 fun hl0_6 => ?_
 refine Jr ?_
 refine iY ?_
 refine rA ?_ (x := lF pi)
 refine zF ?_
 refine gk ?_
 refine cx 9 (fun ga sga => ?_) (fun ga sga => ?_)
 refine mz ?_
 exact Hc
 refine rB ga ?_ (x := lF mO)
 refine rB ga ?_ (x := lD [sl .v _] gV)
 refine rB ga ?_ (x := cL [(false, [sl _ _])] [(false, [sl .v _])] Bx (hs := by exact BG))
 refine rB ga ?_ (x := nT)
 refine rA ?_ (x := aH ga)
 refine sc (fun hba => ?_) (fun hba => ?_)
 exact Hc
 have hok : bG x.ZG = true ∧ fg x.Rows = true := by simp_all
 have hrl := CI hok.2
 refine wE ?_
 refine eD ?_
 refine re ?_
 refine sL [1, 2] [1] (fun k : Nat => k ≤ x.Rows.length) (fun k : Nat => [(3, RV.sc (.string (B (dD ((x.Rows.take k).map (jw x.ZG)) [32])))), (4, RV.int (k : Int))]) (fun k : Nat => []) (fun k : Nat => x.Rows.length - k) 0 (by omega) (by exact aI (by exact rfl) (aI (by exact rfl) tI)) (by exact tI) ?_
 rintro k hk
 refine cI ?_
 refine rA ?_ (x := lF mO)
 refine rA ?_ (x := lD [sl .v _] gV)
 refine tt ?_
 refine sc (fun hbb => ?_) (fun hbb => ?_)
 have hlt : k < x.Rows.length := by omega
 have hrk := CH hok.2 (List.getElem_mem hlt)
 obtain ⟨hi0, hi1, hvl, hv⟩ := ox hrk
 have hil : (itoa x.Rows[k].Id).length ≤ 21 := cy (by unfold aQ; omega)
 have hpj := CG x.ZG x.Rows[k]
 have hpl := pb hpj.2
 have hmt : ((x.Rows.take k).map (jw x.ZG)).length = k := by rw [am, bg]; omega
 have hjl := CJ (q := x.ZG) hok.2 k
 have htk : (x.Rows.take k).length = k := by rw [bg]; omega
 refine er ?_
 refine sT [1, 2, 3, 4] [1] ?_
 refine rM ?_
 refine rA ?_ (x := dC)
 refine sc (fun hbc => ?_) (fun hbc => ?_)
 have hk0 : ¬ k = 0 := by omega
 refine sG [1, 2, 3, 4] [1] ?_
 refine nz ?_
 refine rS ?_
 exact He
 have hk0 : k = 0 := by omega
 refine bc ?_
 exact He
 have hend : k = x.Rows.length := by omega
 subst hend
 rw [bY]
 have hle := Ns (ws := x.Rows.map (jw x.ZG)) (by intro y hy; obtain ⟨r, hr, rfl⟩ := List.mem_map.1 hy; exact Yh _ _)
 refine gM ?_
 refine sT [1, 2, 3, 4] [1] ?_
 refine rM ?_
 refine rA ?_ (x := sK)
 refine sc (fun hbc => ?_) (fun hbc => ?_)
 have he := hbc
 refine sS [1, 2, 3, 4] [1] ?_
 refine rK ?_
 exact Hf
 have he := hbc
 refine bc ?_
 refine sS [1, 2, 3, 4] [1] ?_
 refine rM ?_
 refine rS ?_
 exact Hf
end Go.Proofs.YtmekkgdboplbjaaGreatDoor
