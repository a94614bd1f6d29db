/- What functions of the program compute. No condition. -/
import Derived.Test.YtmekkgdboplbjaaGreatDoorCL0
import Derived.Test.YtmekkgdboplbjaaGreatDoorCM0
set_option linter.all false
namespace Go.Proofs.YtmekkgdboplbjaaGreatDoor
open Go Go.RowKit M PV Tryz
set_option maxRecDepth 10000
attribute [local irreducible] PV.Lcl PV.LclR RV.Lcl
def Ee : prog.underlying 3 = some (.int .i64) := by kernel_rfl
def yh : prog.underlying 5 = some (.int .u8) := by kernel_rfl
def Ef : prog.underlying 9 = some .string := by kernel_rfl
def Eg : prog.underlying 37 = some (.slice 5) := by kernel_rfl
def rE : prog.globalNamed "internal/strconv.uint64pow10" = some 3 := by kernel_rfl
abbrev gl : eR := An prog 3 rE 0 1 2
def Eh {n : Int} (hn : aq n) : bI prog gl 157 [(false, [val (vI n)])] (ar [(false, [val (.string (B (itoa n)))])]) := Ad (G := gl) (fun h => h.1.2) Tryz.strconv_Itoa hn
def yi {xs : List ab} {sep : ab} (hx : xs.length ≤ 140737488355328) (hl : (cO xs sep).length ≤ 140737488355328) : aD prog 72 [(false, [sl .v (xs.map et)]), (false, [val (.string (B sep))])] (ar [(false, [val (.string (B (cO xs sep)))])]) := Ae (fun _ => rfl) Tryz.strings_Join_none Tryz.strings_Join hx hl
def fG {n : Int}  (hn : aq n) : bI prog gl 67 [(false, [val (vI n)])] (ar [(false, [val (.string (B (itoa n)))])]) := by
 refine ek (rs := [(false, [val (.string (B (itoa n)))])]) func67 rfl (nl rfl) (cD (ak.cons (bor_val _) ak.nil) cN) ?_
 intro h0 w0 Fz0
 have hn2 := hn
 unfold aq at hn2
 refine fX ?_
 refine sS [0, 2, 7000] [] ?_
 refine rM ?_
 refine rA ?_ (x := gL [(false, [val _])] [(false, [val _])] DA (hs := by exact (Eh (by unfold aq; omega))))
 exact pf
def fH {n : Int}  (hn : aq n) : aD prog 70 [(false, [val (vI n)])] (ar [(false, [val (.string (B (itoa n)))])]) := by
 refine sF func70 fun h0 w0 Fz0 => ?_
 have hn2 := hn
 unfold aq at hn2
 refine sR ?_
 refine cW ?_
 refine sS [0, 2] [] ?_
 refine rM ?_
 refine rA ?_ (x := dC)
 refine sc ?_ ?_ <;> intro hba
 have h0_ : n = 0 := hba
 refine sS [0, 2] [] ?_
 refine ci ?_
 exact (aI (by refine dq ?_; exact dE (by rw [h0_, BI])) tI)
 have h0_ : ¬ n = 0 := hba
 refine aK ?_
 refine sS [0, 2] [] ?_
 refine rK ?_
 refine sS [0, 2, 3] [] ?_
 refine lH ?_
 refine bZ ?_
 refine fi ?_
 refine sP [0, 2, 3, 4] [] ?_
 refine sL [2, 4] [] (fun q : Int × ab => aq q.1 ∧ gV n q.1 q.2) (fun q : Int × ab => [(0, RV.int q.1), (3, RV.sc (.string (B q.2)))]) (fun q : Int × ab => []) (fun q : Int × ab => q.1.natAbs) (n, []) (by exact ⟨hn, BE h0_⟩) (by exact aI (by exact rfl) (aI (by exact rfl) tI)) (by exact tI) ?_
 rintro q ⟨hi, hto⟩
 unfold aq at hi
 refine ee ?_
 refine rA ?_ (x := eQ)
 refine sc ?_ ?_ <;> intro hbb
 have hq0 : q.1 ≠ 0 := by simpa using hbb
 have hln := wW hto hn
 have hmd := BF q.1
 have hdv := kz q.1
 have hl1 : (ej [48 + -(q.1.tmod 10)]).length = 1 := rfl
 have hl2 : (ej [48 + q.1.tmod 10]).length = 1 := rfl
 refine aK ?_
 refine fi ?_
 refine io ?_
 refine rA ?_ (x := tj (by decide) (by exact tI) (aC rfl) (by omega))
 refine bZ ?_
 refine sS [0, 2, 3, 4, 5] [] ?_
 refine lH ?_
 refine sc ?_ ?_ <;> intro hbc
 have hd_ : -(q.1.tmod 10) = ((q.1.natAbs % 10 : Nat) : Int) := by omega
 refine sG [0, 2, 3, 4, 5] [] ?_
 refine rM ?_
 refine rA ?_ (x := pc)
 refine rS ?_
 exact tK
 have hd_ : q.1.tmod 10 = ((q.1.natAbs % 10 : Nat) : Int) := by omega
 refine aK ?_
 exact tK
 have hq0 : q.1 = 0 := by simpa using hbb
 have hend := hto
 rw [hq0] at hend
 have hend := BH hend
 have hln := wW hto hn
 refine jo ?_
 refine io ?_
 refine sc ?_ ?_ <;> intro hbc
 have hneg : n < 0 := by simpa using hbc
 refine io ?_
 refine kk ?_
 exact (aI (by refine dq ?_; exact dE (by rw [jC hneg, hend]; rfl)) tI)
 have hneg : ¬ n < 0 := by simpa using hbc
 refine aK ?_
 refine io ?_
 refine cj ?_
 exact (aI (by refine dq ?_; exact dE (by rw [iD hneg, hend])) tI)
def yj {l : List Int}  (hi : ∀ x ∈ l, aq x) (hb : l.length ≤ 1048576) : bI prog gl 88 [(false, [sl .v (l.map ap)])] (ar [(false, [val (.string (B (bD l)))])]) := by
 refine ek (rs := [(false, [val (.string (B (bD l)))])]) func88 rfl (nl rfl) (cD (ak.cons (bor_sl _) ak.nil) cN) ?_
 intro h0 w0 Fz0
 refine sj 0 fun hl0 => ?_
 refine fX ?_
 refine sS [0, 2, 7000] [] ?_
 refine we ?_
 refine aT ?_
 refine sS [0, 2, 3, 7000] [] ?_
 refine ij ?_
 refine im ?_
 refine sP [0, 2, 3, 7, 8, 9, 7000] [] ?_
 refine sL [0, 2, 7, 8, 7000] [] (fun k : Nat => k ≤ l.length) (fun k : Nat => [(3, RV.slc hY (((l.take k).map itoa).map et)), (9, RV.int (k : Int))]) (fun k : Nat => []) (fun k : Nat => l.length - k) 0 (by omega) (by exact aI (by first | exact rfl | simp) (aI (by exact rfl) tI)) (by exact tI) ?_
 rintro k hk
 refine it ?_
 refine sc ?_ ?_ <;> intro hba
 have hlt : k < l.length := by omega
 have hix := hi l[k] (List.getElem_mem hlt)
 have hix2 := hix
 unfold aq at hix2
 have htl : (l.take k).length = k := by rw [bQ]; omega
 refine dg ?_
 refine sS [0, 2, 3, 7, 8, 9, 7000] [] ?_
 refine kb ?_
 refine rS ?_
 refine sG [0, 2, 3, 5, 7, 8, 9, 7000] [] ?_
 refine rA ?_ (x := tM)
 refine rM ?_
 refine rA ?_ (x := gL [(false, [val _])] [(false, [val _])] fE (hs := by exact (fG (by unfold aq; omega))))
 refine pJ ?_
 refine rA ?_ (x := tA)
 refine sG [0, 2, 3, 5, 7, 8, 9, 7000] [] ?_
 refine ip ?_
 refine nx (k + 1) (by omega) (e := (by exact aI (by exact hZ (by rw [wL hlt, dJ, dJ]; rfl)) (aI (by exact rfl) tI)))
 have hend : k = l.length := by omega
 subst hend
 rw [dl]
 have hll := iE hi
 unfold bD at hll
 refine cU ?_
 refine sS [0, 2, 3, 7, 8, 9, 7000] [] ?_
 refine rA ?_ (x := vM false [sl .v _])
 refine rA ?_ (x := cL [(false, [sl _ _]), (false, [val _])] [(false, [sl .v _]), (false, [val _])] ya (hs := by exact (yi (by rw [bc]; omega) (by omega))))
 exact pf
def yk {l : List Int}  (hi : ∀ x ∈ l, aq x) (hb : l.length ≤ 1048576) : aD prog 92 [(false, [sl .v (l.map ap)])] (ar [(false, [val (.string (B (bD l)))])]) := by
 refine sF func92 fun h0 w0 Fz0 => ?_
 refine sj 0 fun hl0 => ?_
 refine fX ?_
 refine sS [0, 2] [] ?_
 refine cW ?_
 refine sS [0, 2, 3] [] ?_
 refine cH ?_
 refine sP [0, 2, 3, 4] [] ?_
 refine sL [0, 2] [] (fun k : Nat => k ≤ l.length) (fun k : Nat => [(3, RV.sc (.string (B (bD (l.take k))))), (4, RV.int (k : Int))]) (fun k : Nat => []) (fun k : Nat => l.length - k) 0 (by omega) (by exact aI (by first | exact rfl | simp) (aI (by exact rfl) tI)) (by exact tI) ?_
 rintro k hk
 refine ee ?_
 refine nL ?_
 refine sc ?_ ?_ <;> intro hba
 have hlt : k < l.length := by omega
 have hix := hi l[k] (List.getElem_mem hlt)
 have hix2 := hix
 unfold aq at hix2
 have hil := bl hix
 have htl : (l.take k).length = k := by rw [bQ]; omega
 have hll := iE (l := l.take k) (fun x hx => hi x (List.mem_of_mem_take hx))
 have hsc := BJ hlt
 refine ir ?_
 refine io ?_
 refine rA ?_ (x := fl)
 refine sc ?_ ?_ <;> intro hbb
 have hk0 : ¬ k = 0 := by omega
 refine sG [0, 2, 3, 4] [] ?_
 refine rM ?_
 refine nJ ?_
 exact tL
 have hk0 : k = 0 := by omega
 refine aK ?_
 exact tL
 have hend : k = l.length := by omega
 refine cU ?_
 refine io ?_
 refine cj ?_
 exact (aI (by refine dq ?_; rw [hend, dl]) tI)
end Go.Proofs.YtmekkgdboplbjaaGreatDoor
