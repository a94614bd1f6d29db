/- What functions of the program compute. No condition. -/
import Derived.Test.YtmekkgdboplbjaaGreatDoorCK0
import Derived.Test.YtmekkgdboplbjaaGreatDoorCR1
set_option linter.all false
namespace Go.Proofs.YtmekkgdboplbjaaGreatDoor
open Go Go.RowKit M PV Tryz
set_option maxRecDepth 10000
attribute [local irreducible] PV.Lcl PV.LclR RV.Lcl
def Yy : dL prog 27 = some [(0, 1), (1, 1)] := by kernel_rfl
def Yz {p1 p2 : Fl} {s : Store} {i : Int}  (hb : cq s ≤ 68719476736) : iu prog gl 25 [(true, [sl .v (s.ZE.map (aO p1 p2)), val (vI s.Now)]), (false, [val (vI i)])] (aF [(false, [val (.string (B (sf s i)))])]) := by
 refine nt (rs := [(false, [val (.string (B (sf s i)))])]) func25 rfl (nl rfl) (by exact lq) ?_
 intro h0 w0 Fz0
 refine sn 0 0 fun hl0_0 => ?_
 have hbu := hb
 simp only [cq, gN, bh] at hbu
 refine kt ?_
 refine eD ?_
 refine sT [1, 2, 4, 7000] [2] ?_
 refine IT ?_
 refine gk ?_
 refine cx 12 (fun ga sga => ?_) (fun ga sga => ?_)
 refine mz ?_
 exact Hh
 refine rB ga ?_ (x := sM)
 refine tk ?_
 refine wj ?_
 refine ta ?_
 refine rA ?_ (x := aH ga)
 refine sc (fun hba => ?_) (fun hba => ?_)
 exact Hh
 have hok : bL s = true ∧ aB i 0 (s.ZE.length - 1) = true := by cases h1 : bL s <;> cases h2 : aB i 0 (s.ZE.length - 1) <;> simp_all
 have hin := hok.2
 simp only [aB, aL, decide_eq_true_eq] at hin
 obtain ⟨a1, a2, a3, a4, a5, a6⟩ := jd hok.1
 have hil : i.toNat < s.ZE.length := by omega
 have hsl := a5 _ (List.getElem_mem hil)
 have hgd : s.ZE.getD i.toNat [] = s.ZE[i.toNat] := (cU hil).symm
 have hws := fe (f := cb) hil
 have hws2 : cb s.ZE[i.toNat] = s.ZE[i.toNat].length + (s.ZE[i.toNat].map cw).sum := rfl
 refine bc ?_
 refine sS [1, 2, 4, 7000] [2] ?_
 refine tf ?_
 refine sS [1, 2, 4, 5, 7000] [2] ?_
 refine mA ?_
 refine zL ?_
 refine rA ?_ (x := lN cX)
 refine eK ?_
 refine sP [1, 2, 4, 5, 26, 27, 28, 7000] [2] ?_
 refine sL [1, 2, 4, 26, 27, 7000] [2] (fun k : Nat => k ≤ s.ZE[i.toNat].length) (fun k : Nat => [(5, RV.slc nk (((s.ZE[i.toNat].take k).map jx).map kD)), (28, RV.int (k : Int))]) (fun k : Nat => []) (fun k : Nat => s.ZE[i.toNat].length - k) 0 (by omega) (by exact aI (by first | exact rfl | simp) (aI (by exact rfl) tI)) (by exact tI) ?_
 rintro k hk
 refine eL ?_
 refine sc (fun hbb => ?_) (fun hbb => ?_)
 have hlt : k < s.ZE[i.toNat].length := by omega
 have hvo := rH hok.1 hil hlt
 have hv6 := CK hvo a4
 have hfl := CE (ee s.ZE[i.toNat][k])
 have hbl : (itoa s.ZE[i.toNat][k].ZT).length ≤ 21 := cy (by unfold aQ; omega)
 have hdl : (itoa s.ZE[i.toNat][k].ZP).length ≤ 21 := cy (by unfold aQ; omega)
 have hjl := CL hok.1 hil k
 have htk : (s.ZE[i.toNat].take k).length = k := by rw [bg]; omega
 have hwm2 := fe (f := cw) hlt
 refine bw ?_
 refine sT [1, 2, 4, 5, 26, 27, 28, 7000] [2] ?_
 refine zI ?_
 refine tb ?_
 refine ba ?_
 refine sO [(1, _), (2, _), (4, _), (5, _), (7, _), (26, _), (27, _), (28, _), (7000, _)] [(2, _), (7, (116, [val _, sl _ _, val _, val _]))] ?_
 refine cv cd ?_
 refine dA 0 ?_ (x := lD [val _, sl .v _, val _, val _] fC)
 refine dA 1 ?_ (x := cL [(true, [val _, sl _ _, val _, val _])] [(true, [val _, sl .v _, val _, val _])] Lf (hs := by exact LD (by omega)))
 refine dA 3 ?_ (x := gL [(true, [val _, sl _ _])] [(true, [val _, sl .v _])] TD (hs := by exact Yr))
 refine dA 7 ?_ (x := dN)
 refine dA 0 ?_ (x := lF kK)
 refine dA 16 ?_ (x := lD [val _] aw)
 refine dA 55 ?_ (x := gL [(false, [val _])] [(false, [val _])] iM (hs := by exact (iQ (by unfold aQ; omega))))
 refine dA 127 ?_ (x := dN)
 refine dA 255 ?_ (x := sA)
 refine ba ?_
 refine sS [1, 2, 4, 5, 7, 8, 26, 27, 28, 7000] [2, 7] ?_
 refine wg ?_
 refine rA ?_ (x := gJ)
 refine sc (fun hbc => ?_) (fun hbc => ?_)
 have hd := hbc
 refine sG [1, 2, 4, 5, 7, 8, 26, 27, 28, 7000] [2, 7] ?_
 refine rM ?_
 refine wg ?_
 refine Jk ?_
 refine rA ?_ (x := dN)
 refine rS ?_
 exact Hi
 have hd : s.ZE[i.toNat][k].ZP = -1 := by simpa using hbc
 refine bc ?_
 exact Hi
 have hend : k = s.ZE[i.toNat].length := by omega
 have hjl := CL hok.1 hil k
 subst hend
 rw [bY] at hjl ⊢
 have hml : (s.ZE[i.toNat].map jx).length = s.ZE[i.toNat].length := am _
 refine bE ?_
 refine sT [1, 2, 4, 5, 26, 27, 28, 7000] [2] ?_
 refine IW ?_
 refine df ?_
 exact (aI (by refine hE ?_; exact iE (by unfold sf; rw [if_pos (by rw [hok.1, hok.2]; rfl), hgd])) tI)
def YA {p1 p2 : Fl} {s : Store} {i : Int}  (hb : cq s ≤ 68719476736) : aN prog 26 [(true, [sl .v (s.ZE.map (aO p1 p2)), val (vI s.Now)]), (false, [val (vI i)])] (aF [(false, [val (.string (B (sf s i)))])]) := by
 refine sF func26 fun h0 w0 Fz0 => ?_
 refine sn 0 0 fun hl0_0 => ?_
 refine kt ?_
 refine eD ?_
 refine sT [1, 2, 4] [2] ?_
 refine zN ?_
 refine gk ?_
 refine cx 11 (fun ga sga => ?_) (fun ga sga => ?_)
 refine mz ?_
 exact Hj
 refine rB ga ?_ (x := sM)
 refine tk ?_
 refine wj ?_
 refine wD ?_
 refine sc (fun hba => ?_) (fun hba => ?_)
 exact Hj
 have hok : bL s = true ∧ aB i 0 (s.ZE.length - 1) = true := by cases h1 : bL s <;> cases h2 : aB i 0 (s.ZE.length - 1) <;> simp_all
 have hin := hok.2
 simp only [aB, aL, decide_eq_true_eq] at hin
 obtain ⟨a1, a2, a3, a4, a5, a6⟩ := jd hok.1
 have hil : i.toNat < s.ZE.length := by omega
 have hsl := a5 _ (List.getElem_mem hil)
 have hgd : s.ZE.getD i.toNat [] = s.ZE[i.toNat] := (cU hil).symm
 have hws := fe (f := cb) hil
 have hws2 : cb s.ZE[i.toNat] = s.ZE[i.toNat].length + (s.ZE[i.toNat].map cw).sum := rfl
 refine bc ?_
 refine sS [1, 2, 4] [2] ?_
 refine eD ?_
 refine sS [1, 2, 4, 5] [2] ?_
 refine de ?_
 refine sP [1, 2, 4, 5, 6] [2] ?_
 refine sL [1, 2, 4] [2] (fun k : Nat => k ≤ s.ZE[i.toNat].length) (fun k : Nat => [(5, RV.sc (.string (B (dD ((s.ZE[i.toNat].take k).map jx) [32])))), (6, RV.int (k : Int))]) (fun k : Nat => []) (fun k : Nat => s.ZE[i.toNat].length - k) 0 (by omega) (by exact aI (by exact rfl) (aI (by exact rfl) tI)) (by exact tI) ?_
 rintro k hk
 refine cI ?_
 refine mA ?_
 refine zL ?_
 refine pV ?_
 refine sc (fun hbb => ?_) (fun hbb => ?_)
 have hlt : k < s.ZE[i.toNat].length := by omega
 have hvo := rH hok.1 hil hlt
 have hv6 := CK hvo a4
 have hfl := CE (ee s.ZE[i.toNat][k])
 have hbl : (itoa s.ZE[i.toNat][k].ZT).length ≤ 21 := cy (by unfold aQ; omega)
 have hdl : (itoa s.ZE[i.toNat][k].ZP).length ≤ 21 := cy (by unfold aQ; omega)
 have hjl := CL hok.1 hil k
 have htk : (s.ZE[i.toNat].take k).length = k := by rw [bg]; omega
 have hwm2 := fe (f := cw) hlt
 refine bw ?_
 refine sT [1, 2, 4, 5, 6] [2] ?_
 refine mA ?_
 refine zL ?_
 refine rM ?_
 refine zI ?_
 refine tb ?_
 refine dO ?_
 refine sO [(1, _), (2, _), (4, _), (5, _), (6, _), (7, _)] [(2, _), (7, (116, [val _, sl _ _, val _, val _]))] ?_
 refine ku ?_
 refine rA ?_ (x := dC)
 refine sc (fun hbc => ?_) (fun hbc => ?_)
 have hk0 : ¬ k = 0 := by omega
 refine sG [1, 2, 4, 5, 6, 7] [2, 7] ?_
 refine nz ?_
 refine rS ?_
 exact Hl
 have hk0 : k = 0 := by omega
 refine bc ?_
 exact Hl
 have hend : k = s.ZE[i.toNat].length := by omega
 subst hend
 rw [bY]
 have hle := Ns (ws := s.ZE[i.toNat].map jx) (by intro y hy; obtain ⟨r, hr, rfl⟩ := List.mem_map.1 hy; exact Yj _)
 refine gM ?_
 refine sT [1, 2, 4, 5, 6] [2] ?_
 refine rM ?_
 refine rA ?_ (x := sK)
 refine sc (fun hbc => ?_) (fun hbc => ?_)
 have he := hbc
 refine sS [1, 2, 4, 5, 6] [2] ?_
 refine rK ?_
 exact Hm
 have he := hbc
 refine bc ?_
 refine sS [1, 2, 4, 5, 6] [2] ?_
 refine rM ?_
 refine rS ?_
 exact Hm
end Go.Proofs.YtmekkgdboplbjaaGreatDoor
