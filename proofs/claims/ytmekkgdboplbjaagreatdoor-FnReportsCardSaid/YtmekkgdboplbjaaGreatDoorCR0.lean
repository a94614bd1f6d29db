/- What functions of the program compute. No condition. -/
import Derived.Test.YtmekkgdboplbjaaGreatDoorCI0
import Derived.Test.YtmekkgdboplbjaaGreatDoorCQ0
set_option linter.all false
namespace Go.Proofs.YtmekkgdboplbjaaGreatDoor
open Go Go.RowKit M PV Tryz
set_option maxRecDepth 10000
attribute [local irreducible] PV.Lcl PV.LclR RV.Lcl
def UD : prog.underlying 3 = some (.int .i64) := by kernel_rfl
def LH : prog.underlying 5 = some (.int .u8) := by kernel_rfl
def UE : prog.underlying 9 = some .string := by kernel_rfl
def UF : prog.underlying 37 = some (.slice 5) := by kernel_rfl
def BK : prog.globalNamed "internal/strconv.uint64pow10" = some 3 := by kernel_rfl
abbrev gl : nr := Pa prog 3 BK
def UG {n : Int} (hn : aQ n) : iu prog gl 157 [(false, [val (vI n)])] (aF [(false, [val (.string (B (itoa n)))])]) := OX (G := gl) (fun h => h.2) Tryz.strconv_Itoa hn
def xt {xs : List bW} {sep : bW} (hx : xs.length ≤ 140737488355328) (hl : (dD xs sep).length ≤ 140737488355328) : aN prog 72 [(false, [sl .v (xs.map kD)]), (false, [val (.string (B sep))])] (aF [(false, [val (.string (B (dD xs sep)))])]) := OY (fun _ => rfl) Tryz.strings_Join_none Tryz.strings_Join hx hl
def iQ {n : Int}  (hn : aQ n) : iu prog gl 67 [(false, [val (vI n)])] (aF [(false, [val (.string (B (itoa n)))])]) := by
 refine nt (rs := [(false, [val (.string (B (itoa n)))])]) func67 rfl (nl rfl) (bV (ab.cons (bor_val _) ab.nil) bH) ?_
 intro h0 w0 Fz0
 have hn2 := hn
 unfold aQ at hn2
 refine jK ?_
 refine sS [0, 2, 7000] [] ?_
 refine rM ?_
 refine rA ?_ (x := gL [(false, [val _])] [(false, [val _])] Sm (hs := by exact (UG (by unfold aQ; omega))))
 refine rS ?_
 exact qQ
def kP {n : Int}  (hn : aQ n) : aN prog 70 [(false, [val (vI n)])] (aF [(false, [val (.string (B (itoa n)))])]) := by
 refine sF func70 fun h0 w0 Fz0 => ?_
 have hn2 := hn
 unfold aQ at hn2
 refine lM ?_
 refine sS [0, 2] [] ?_
 refine pZ ?_
 refine sc (fun hba => ?_) (fun hba => ?_)
 have h0_ : n = 0 := hba
 refine sS [0, 2] [] ?_
 refine cC ?_
 exact (aI (by refine hE ?_; exact iE (by rw [h0_, Rb])) tI)
 have h0_ : ¬ n = 0 := hba
 refine bc ?_
 refine sS [0, 2] [] ?_
 refine rK ?_
 refine sS [0, 2, 3] [] ?_
 refine oJ ?_
 refine gA ?_
 refine fM ?_
 refine sP [0, 2, 3, 4] [] ?_
 refine sL [2, 4] [] (fun q : Int × bW => aQ q.1 ∧ nO n q.1 q.2) (fun q : Int × bW => [(0, RV.int q.1), (3, RV.sc (.string (B q.2)))]) (fun q : Int × bW => []) (fun q : Int × bW => q.1.natAbs) (n, []) (by exact ⟨hn, QX h0_⟩) (by exact aI (by exact rfl) (aI (by exact rfl) tI)) (by exact tI) ?_
 rintro q ⟨hi, hto⟩
 unfold aQ at hi
 refine cI ?_
 refine rA ?_ (x := gJ)
 refine sc (fun hbb => ?_) (fun hbb => ?_)
 have hq0 : q.1 ≠ 0 := by simpa using hbb
 have hln := Kq hto hn
 have hmd := QY q.1
 have hdv := rN q.1
 have hl1 : (jE [48 + -(q.1.tmod 10)]).length = 1 := rfl
 have hl2 : (jE [48 + q.1.tmod 10]).length = 1 := rfl
 refine bc ?_
 refine fM ?_
 refine rg ?_
 refine rA ?_ (x := yt (by decide) (by exact tI) (aJ rfl) (by omega))
 refine gA ?_
 refine sS [0, 2, 3, 4, 5] [] ?_
 refine oJ ?_
 refine sc (fun hbc => ?_) (fun hbc => ?_)
 have hd_ : -(q.1.tmod 10) = ((q.1.natAbs % 10 : Nat) : Int) := by omega
 refine sG [0, 2, 3, 4, 5] [] ?_
 refine rM ?_
 refine rA ?_ (x := OU)
 refine rS ?_
 exact Fo
 have hd_ : q.1.tmod 10 = ((q.1.natAbs % 10 : Nat) : Int) := by omega
 refine bc ?_
 exact Fo
 have hq0 : q.1 = 0 := by simpa using hbb
 have hend := hto
 rw [hq0] at hend
 have hend := Ra hend
 have hln := Kq hto hn
 refine gM ?_
 refine rg ?_
 refine sc (fun hbc => ?_) (fun hbc => ?_)
 have hneg : n < 0 := by simpa using hbc
 refine sS [0, 2, 3, 4] [] ?_
 refine nz ?_
 refine df ?_
 exact (aI (by refine hE ?_; exact iE (by rw [Kr hneg, hend]; rfl)) tI)
 have hneg : ¬ n < 0 := by simpa using hbc
 refine bc ?_
 refine rg ?_
 refine df ?_
 exact (aI (by refine hE ?_; exact iE (by rw [AY hneg, hend])) tI)
def LI {l : List Int}  (hi : ∀ x ∈ l, aQ x) (hb : l.length ≤ 1048576) : iu prog gl 88 [(false, [sl .v (l.map an)])] (aF [(false, [val (.string (B (ln l)))])]) := by
 refine nt (rs := [(false, [val (.string (B (ln l)))])]) func88 rfl (nl rfl) (bV (ab.cons (bor_sl _) ab.nil) bH) ?_
 intro h0 w0 Fz0
 refine sj 0 fun hl0 => ?_
 refine jK ?_
 refine sS [0, 2, 7000] [] ?_
 refine tf ?_
 refine sS [0, 2, 3, 7000] [] ?_
 refine jH ?_
 refine eK ?_
 refine sP [0, 2, 3, 7, 8, 9, 7000] [] ?_
 refine sL [0, 2, 7, 8, 7000] [] (fun k : Nat => k ≤ l.length) (fun k : Nat => [(3, RV.slc nk (((l.take k).map itoa).map kD)), (9, RV.int (k : Int))]) (fun k : Nat => []) (fun k : Nat => l.length - k) 0 (by omega) (by exact aI (by first | exact rfl | simp) (aI (by exact rfl) tI)) (by exact tI) ?_
 rintro k hk
 refine eL ?_
 refine sc (fun hba => ?_) (fun hba => ?_)
 have hlt : k < l.length := by omega
 have hix := hi l[k] (List.getElem_mem hlt)
 have hix2 := hix
 unfold aQ at hix2
 have htl : (l.take k).length = k := by rw [bg]; omega
 refine bw ?_
 refine sS [0, 2, 3, 7, 8, 9, 7000] [] ?_
 refine nF ?_
 refine sG [0, 2, 3, 5, 7, 8, 9, 7000] [] ?_
 refine nD ?_
 refine rA ?_ (x := gL [(false, [val _])] [(false, [val _])] iM (hs := by exact (iQ (by unfold aQ; omega))))
 refine vw ?_
 refine rA ?_ (x := tA)
 refine sG [0, 2, 3, 5, 7, 8, 9, 7000] [] ?_
 refine fc ?_
 refine nx (k + 1) (by omega) (e := (by exact aI (by exact bI (by rw [rz hlt, bb, bb]; rfl)) (aI (by exact rfl) tI)))
 have hend : k = l.length := by omega
 subst hend
 rw [bY]
 have hll := pb hi
 unfold ln at hll
 refine bE ?_
 refine sS [0, 2, 3, 7, 8, 9, 7000] [] ?_
 refine rA ?_ (x := vM false [sl .v _])
 refine rA ?_ (x := cL [(false, [sl _ _]), (false, [val _])] [(false, [sl .v _]), (false, [val _])] xg (hs := by exact (xt (by rw [am]; omega) (by omega))))
 refine rS ?_
 exact qQ
def LJ {l : List Int}  (hi : ∀ x ∈ l, aQ x) (hb : l.length ≤ 1048576) : aN prog 92 [(false, [sl .v (l.map an)])] (aF [(false, [val (.string (B (ln l)))])]) := by
 refine sF func92 fun h0 w0 Fz0 => ?_
 refine sj 0 fun hl0 => ?_
 refine jK ?_
 refine sS [0, 2] [] ?_
 refine eD ?_
 refine oI ?_
 refine sL [0, 2] [] (fun k : Nat => k ≤ l.length) (fun k : Nat => [(3, RV.sc (.string (B (ln (l.take k))))), (4, RV.int (k : Int))]) (fun k : Nat => []) (fun k : Nat => l.length - k) 0 (by omega) (by exact aI (by first | exact rfl | simp) (aI (by exact rfl) tI)) (by exact tI) ?_
 rintro k hk
 refine kw ?_
 refine sc (fun hba => ?_) (fun hba => ?_)
 have hlt : k < l.length := by omega
 have hix := hi l[k] (List.getElem_mem hlt)
 have hix2 := hix
 unfold aQ at hix2
 have hil := cy hix
 have htl : (l.take k).length = k := by rw [bg]; omega
 have hll := pb (l := l.take k) (fun x hx => hi x (List.mem_of_mem_take hx))
 have hsc := Re hlt
 refine er ?_
 refine rg ?_
 refine rA ?_ (x := dC)
 refine sc (fun hbb => ?_) (fun hbb => ?_)
 have hk0 : ¬ k = 0 := by omega
 refine sG [0, 2, 3, 4] [] ?_
 refine nz ?_
 refine rS ?_
 exact Fq
 have hk0 : k = 0 := by omega
 refine bc ?_
 exact Fq
 have hend : k = l.length := by omega
 refine bE ?_
 refine rg ?_
 refine df ?_
 exact (aI (by refine hE ?_; rw [hend, bY]) tI)
end Go.Proofs.YtmekkgdboplbjaaGreatDoor
