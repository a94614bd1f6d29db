/- What functions of the program compute. No condition. -/
import Derived.Test.YteflgldonmgejaaGreatCZMRunAdaptive
import Derived.Test.YteflgldonmgejaaGreatCFcRunAdaptive
import Derived.Test.YteflgldonmgejaaGreatCDb
import Derived.KernelRfl
set_option linter.unusedVariables false
set_option linter.unusedSimpArgs false
namespace Go.Proofs.YteflgldonmgejaaGreat
open Go Go.RowKit M PV
set_option maxRecDepth 10000
attribute [local irreducible] PV.Lcl PV.LclR RV.Lcl
theorem wt0_IntS (x : List Int) : (wtIntS x : Int) = x.length := by
 have h : ∀ l : List Int, (l.map wtInt).sum = 0 := by
  intro l
  induction l with
  | nil => rfl
  | cons a l ih => rw [List.map_cons, List.sum_cons, ih]; rfl
 simp [wtIntS, h]
theorem sz_IntS {x : List Int} {l : Int}  (h0l : 0 ≤ l) (h1l : l ≤ 1048576) : SCall Tryz.prog 38 [(false, [sl .v (x.map cInt)]), (false, [val (vI l)])] (resRV [(false, [val (vI (szR l (wtIntS x)))])]) := by
 refine sF Tryz.func38 fun h0 w0 Fz0 => ?_
 refine sj 0 fun hl0 => ?_
 refine za0 ?_
 refine rA ?_ (x := lN sl_25)
 refine za1 ?_
 refine sc (fun hba => ?_) (fun hba => ?_)
 refine za2 ?_
 exact (aI (by refine int_eq ?_; exact (szR_no (by have := wt0_IntS x; omega)).symm) tI)
 refine sw_skip ?_
 refine sS [0, 1, 4] [] ?_
 refine za3 ?_
 exact (aI (by refine int_eq ?_; exact (by have := wt0_IntS x; rw [szR_yes (by omega), this])) tI)
theorem sz_Charge {x : Charge} {l : Int}  (h0l : 0 ≤ l) (h1l : l ≤ 1048576) : SCall Tryz.prog 95 [(true, [val (vI x.Segment), val (vI x.Base), sl .v (x.Ids.map cInt), sl .v (x.Tenants.map cInt), sl .v (x.Rows.map cInt)]), (false, [val (vI l)])] (resRV [(false, [val (vI (szR l (wtCharge x)))])]) := by
 refine sF Tryz.func95 fun h0 w0 Fz0 => ?_
 refine sn 0 2 fun hl0_2 => ?_
 refine sn 0 3 fun hl0_3 => ?_
 refine sn 0 4 fun hl0_4 => ?_
 have hw : (wtCharge x : Int) = (wtIntS x.Ids : Int) + (wtIntS x.Tenants : Int) + (wtIntS x.Rows : Int) := by simp [wtCharge, wtInt]
 refine za4 ?_
 refine za5 ?_
 refine rA ?_ (x := lF fd_136_2)
 refine za6 ?_
 refine sc (fun hba => ?_) (fun hba => ?_)
 have hn0 := szR_neg (w := wtIntS x.Ids) (l := l) (by omega) hba
 exact za7
 have hp0 := szR_pos (w := wtIntS x.Ids) (l := l) hba
 have he0 := szR_yes hp0
 refine za8 ?_
 refine rA ?_ (x := lF fd_136_3)
 refine za6 ?_
 refine sc (fun hbb => ?_) (fun hbb => ?_)
 have hn1 := szR_neg (w := wtIntS x.Tenants) (l := (szR l (wtIntS x.Ids))) (by omega) hbb
 exact za7
 have hp1 := szR_pos (w := wtIntS x.Tenants) (l := (szR l (wtIntS x.Ids))) hbb
 have he1 := szR_yes hp1
 refine za8 ?_
 refine rA ?_ (x := lF fd_136_4)
 refine za6 ?_
 refine sc (fun hbc => ?_) (fun hbc => ?_)
 have hn2 := szR_neg (w := wtIntS x.Rows) (l := (szR (szR l (wtIntS x.Ids)) (wtIntS x.Tenants))) (by omega) hbc
 exact za7
 have hp2 := szR_pos (w := wtIntS x.Rows) (l := (szR (szR l (wtIntS x.Ids)) (wtIntS x.Tenants))) hbc
 have he2 := szR_yes hp2
 refine za9 ?_
 exact (aI (by refine int_eq ?_; (have hz := szR_yes (l := l) (n := (wtCharge x : Int)) (by omega); omega)) tI)
theorem wt0_CondS (x : List Cond) : (wtCondS x : Int) = x.length := by
 have h : ∀ l : List Cond, (l.map wtCond).sum = 0 := by
  intro l
  induction l with
  | nil => rfl
  | cons a l ih => rw [List.map_cons, List.sum_cons, ih]; rfl
 simp [wtCondS, h]
theorem sz_CondS {x : List Cond} {l : Int}  (h0l : 0 ≤ l) (h1l : l ≤ 1048576) : SCall Tryz.prog 151 [(false, [sl .v (x.map cCond)]), (false, [val (vI l)])] (resRV [(false, [val (vI (szR l (wtCondS x)))])]) := by
 refine sF Tryz.func151 fun h0 w0 Fz0 => ?_
 refine sj 0 fun hl0 => ?_
 refine za0 ?_
 refine rA ?_ (x := lN sl_51)
 refine za1 ?_
 refine sc (fun hba => ?_) (fun hba => ?_)
 refine za2 ?_
 exact (aI (by refine int_eq ?_; exact (szR_no (by have := wt0_CondS x; omega)).symm) tI)
 refine sw_skip ?_
 refine sS [0, 1, 4] [] ?_
 refine za3 ?_
 exact (aI (by refine int_eq ?_; exact (by have := wt0_CondS x; rw [szR_yes (by omega), this])) tI)
theorem sz_Row {x : Row} {l : Int}  (h0l : 0 ≤ l) (h1l : l ≤ 1048576) : SCall Tryz.prog 152 [(true, [val (vI x.Id), sl .v (x.Values.map cInt)]), (false, [val (vI l)])] (resRV [(false, [val (vI (szR l (wtRow x)))])]) := by
 refine sF Tryz.func152 fun h0 w0 Fz0 => ?_
 refine sn 0 1 fun hl0_1 => ?_
 have hw : (wtRow x : Int) = (wtIntS x.Values : Int) := by simp [wtRow, wtInt]
 refine zaa ?_
 refine za5 ?_
 refine rA ?_ (x := lF fd_55_1)
 refine za6 ?_
 refine sc (fun hba => ?_) (fun hba => ?_)
 exact zab
 have hp0 := szR_pos (w := wtIntS x.Values) (l := l) hba
 have he0 := szR_yes hp0
 refine za9 ?_
 exact (aI (by refine int_eq ?_; (have hz := szR_yes (l := l) (n := (wtRow x : Int)) (by omega); omega)) tI)
theorem sz_Version {x : Version} {l : Int}  (h0l : 0 ≤ l) (h1l : l ≤ 1048576) : SCall Tryz.prog 221 [(true, [val (vI x.Id), sl .v (x.Values.map cInt), val (vI x.Born), val (vI x.Died)]), (false, [val (vI l)])] (resRV [(false, [val (vI (szR l (wtVersion x)))])]) := by
 refine sF Tryz.func221 fun h0 w0 Fz0 => ?_
 refine sn 0 1 fun hl0_1 => ?_
 have hw : (wtVersion x : Int) = (wtIntS x.Values : Int) := by simp [wtVersion, wtInt]
 refine zac ?_
 refine za5 ?_
 refine rA ?_ (x := lF fd_231_1)
 refine za6 ?_
 refine sc (fun hba => ?_) (fun hba => ?_)
 exact zab
 have hp0 := szR_pos (w := wtIntS x.Values) (l := l) hba
 have he0 := szR_yes hp0
 refine za9 ?_
 exact (aI (by refine int_eq ?_; (have hz := szR_yes (l := l) (n := (wtVersion x : Int)) (by omega); omega)) tI)
theorem sz_ChargeS {p1 p2 p3 : Fl} {x : List Charge} {l : Int}  (h0l : 0 ≤ l) (h1l : l ≤ 1048576) : SCall Tryz.prog 41 [(false, [sl .v (x.map (cCharge p1 p2 p3))]), (false, [val (vI l)])] (resRV [(false, [val (vI (szR l (wtChargeS x)))])]) := by
 refine sF Tryz.func41 fun h0 w0 Fz0 => ?_
 refine sj 0 fun hl0 => ?_
 refine za0 ?_
 refine rA ?_ (x := lN sl_28)
 refine za1 ?_
 refine sc (fun hba => ?_) (fun hba => ?_)
 refine za2 ?_
 exact (aI (by refine int_eq ?_; exact (szR_no (by simp only [wtChargeS]; omega)).symm) tI)
 refine zad ?_
 refine sL [0] [] (fun q : Nat × Int => q.1 ≤ x.length ∧ 0 ≤ q.2 ∧ q.2 + x.length + ((x.take q.1).map wtCharge).sum = l) (fun q : Nat × Int => [(1, RV.int q.2), (5, RV.int (q.1 : Int))]) (fun q : Nat × Int => []) (fun q : Nat × Int => x.length - q.1) (0, l - x.length) (by exact ⟨by simp, by dsimp only; omega, by simp⟩) (by exact aI (by exact rfl) (aI (by exact rfl) (tI))) (by exact ⟨⟩) ?_
 rintro ⟨k, ll⟩ ⟨hk, hll, hw⟩
 dsimp only at hk hll hw
 refine zae ?_
 refine rA ?_ (x := lN sl_28)
 refine rA ?_ (x := B_lss)
 refine sc (fun hbb => ?_) (fun hbb => ?_)
 have hlt : k < x.length := by omega
 refine zaf ?_
 refine zag ?_
 refine rM ?_
 refine rA ?_ (x := cL [(true, [val _, val _, sl _ _, sl _ _, sl _ _]), (false, [val _])] [(true, [val _, val _, sl .v _, sl .v _, sl .v _]), (false, [val _])] c_95 (hs := by exact sz_Charge (by omega) (by omega)))
 refine zah ?_
 refine sc (fun hbc => ?_) (fun hbc => ?_)
 have hlt : k < x.length := by omega
 have hneg := szR_neg (w := wtCharge x[k]) (l := ll) (by omega) hbc
 have hwk := wtk (f := wtCharge) hlt
 refine zai ?_
 exact (aI (by refine int_eq ?_; exact (szR_no (by have := wtk_le (f := wtCharge) x (k + 1); simp only [wtChargeS]; omega)).symm) tI)
 have hlt : k < x.length := by omega
 have hpos := szR_pos (w := wtCharge x[k]) (l := ll) hbc
 have hwk := wtk (f := wtCharge) hlt
 refine zaj ?_
 refine nx (k + 1, ll - wtCharge x[k]) (by exact ⟨by dsimp only; omega, by dsimp only; omega, by dsimp only; have := wtk (f := wtCharge) hlt; omega⟩) (e := (by exact aI (by exact int_eq (szR_yes hpos)) (aI (by exact rfl) (tI))))
 refine zak ?_
 exact (aI (by refine int_eq ?_; (rw [szR_yes (by have : (x.take k) = x := List.take_of_length_le (by omega); rw [this] at hw; simp only [wtChargeS]; omega)]; have : (x.take k) = x := List.take_of_length_le (by omega); rw [this] at hw; simp only [wtChargeS]; omega)) tI)
theorem sz_Query {x : Query} {l : Int}  (h0l : 0 ≤ l) (h1l : l ≤ 1048576) : SCall Tryz.prog 73 [(true, [val (vI x.Id), val (vI x.Tenant), sl .v (x.Conds.map cCond), sl .v (x.Out.map cInt)]), (false, [val (vI l)])] (resRV [(false, [val (vI (szR l (wtQuery x)))])]) := by
 refine sF Tryz.func73 fun h0 w0 Fz0 => ?_
 refine sn 0 2 fun hl0_2 => ?_
 refine sn 0 3 fun hl0_3 => ?_
 have hw : (wtQuery x : Int) = (wtCondS x.Conds : Int) + (wtIntS x.Out : Int) := by simp [wtQuery, wtInt]
 refine zal ?_
 refine za5 ?_
 refine rA ?_ (x := lF fd_53_2)
 refine rA ?_ (x := lD [sl .v _] ty_51)
 refine rM ?_
 refine rA ?_ (x := cL [(false, [sl _ _]), (false, [val _])] [(false, [sl .v _]), (false, [val _])] c_151 (hs := by exact sz_CondS (by omega) (by omega)))
 refine zam ?_
 refine sc (fun hba => ?_) (fun hba => ?_)
 have hn0 := szR_neg (w := wtCondS x.Conds) (l := l) (by omega) hba
 exact za7
 have hp0 := szR_pos (w := wtCondS x.Conds) (l := l) hba
 have he0 := szR_yes hp0
 refine za8 ?_
 refine rA ?_ (x := lF fd_53_3)
 refine za6 ?_
 refine sc (fun hbb => ?_) (fun hbb => ?_)
 have hn1 := szR_neg (w := wtIntS x.Out) (l := (szR l (wtCondS x.Conds))) (by omega) hbb
 exact za7
 have hp1 := szR_pos (w := wtIntS x.Out) (l := (szR l (wtCondS x.Conds))) hbb
 have he1 := szR_yes hp1
 refine za9 ?_
 exact (aI (by refine int_eq ?_; (have hz := szR_yes (l := l) (n := (wtQuery x : Int)) (by omega); omega)) tI)
theorem sz_VersionS {p1 : Fl} {x : List Version} {l : Int}  (h0l : 0 ≤ l) (h1l : l ≤ 1048576) : SCall Tryz.prog 168 [(false, [sl .v (x.map (cVersion p1))]), (false, [val (vI l)])] (resRV [(false, [val (vI (szR l (wtVersionS x)))])]) := by
 refine sF Tryz.func168 fun h0 w0 Fz0 => ?_
 refine sj 0 fun hl0 => ?_
 refine za0 ?_
 refine rA ?_ (x := lN sl_195)
 refine za1 ?_
 refine sc (fun hba => ?_) (fun hba => ?_)
 refine za2 ?_
 exact (aI (by refine int_eq ?_; exact (szR_no (by simp only [wtVersionS]; omega)).symm) tI)
 refine zad ?_
 refine sL [0] [] (fun q : Nat × Int => q.1 ≤ x.length ∧ 0 ≤ q.2 ∧ q.2 + x.length + ((x.take q.1).map wtVersion).sum = l) (fun q : Nat × Int => [(1, RV.int q.2), (5, RV.int (q.1 : Int))]) (fun q : Nat × Int => []) (fun q : Nat × Int => x.length - q.1) (0, l - x.length) (by exact ⟨by simp, by dsimp only; omega, by simp⟩) (by exact aI (by exact rfl) (aI (by exact rfl) (tI))) (by exact ⟨⟩) ?_
 rintro ⟨k, ll⟩ ⟨hk, hll, hw⟩
 dsimp only at hk hll hw
 refine zae ?_
 refine rA ?_ (x := lN sl_195)
 refine rA ?_ (x := B_lss)
 refine sc (fun hbb => ?_) (fun hbb => ?_)
 have hlt : k < x.length := by omega
 refine zaf ?_
 refine zan ?_
 refine rM ?_
 refine rA ?_ (x := cL [(true, [val _, sl _ _, val _, val _]), (false, [val _])] [(true, [val _, sl .v _, val _, val _]), (false, [val _])] c_221 (hs := by exact sz_Version (by omega) (by omega)))
 refine zah ?_
 refine sc (fun hbc => ?_) (fun hbc => ?_)
 have hlt : k < x.length := by omega
 have hneg := szR_neg (w := wtVersion x[k]) (l := ll) (by omega) hbc
 have hwk := wtk (f := wtVersion) hlt
 refine zai ?_
 exact (aI (by refine int_eq ?_; exact (szR_no (by have := wtk_le (f := wtVersion) x (k + 1); simp only [wtVersionS]; omega)).symm) tI)
 have hlt : k < x.length := by omega
 have hpos := szR_pos (w := wtVersion x[k]) (l := ll) hbc
 have hwk := wtk (f := wtVersion) hlt
 refine zaj ?_
 refine nx (k + 1, ll - wtVersion x[k]) (by exact ⟨by dsimp only; omega, by dsimp only; omega, by dsimp only; have := wtk (f := wtVersion) hlt; omega⟩) (e := (by exact aI (by exact int_eq (szR_yes hpos)) (aI (by exact rfl) (tI))))
 refine zak ?_
 exact (aI (by refine int_eq ?_; (rw [szR_yes (by have : (x.take k) = x := List.take_of_length_le (by omega); rw [this] at hw; simp only [wtVersionS]; omega)]; have : (x.take k) = x := List.take_of_length_le (by omega); rw [this] at hw; simp only [wtVersionS]; omega)) tI)
theorem sz_RowS {p1 : Fl} {x : List Row} {l : Int}  (h0l : 0 ≤ l) (h1l : l ≤ 1048576) : SCall Tryz.prog 169 [(false, [sl .v (x.map (cRow p1))]), (false, [val (vI l)])] (resRV [(false, [val (vI (szR l (wtRowS x)))])]) := by
 refine sF Tryz.func169 fun h0 w0 Fz0 => ?_
 refine sj 0 fun hl0 => ?_
 refine za0 ?_
 refine rA ?_ (x := lN sl_128)
 refine za1 ?_
 refine sc (fun hba => ?_) (fun hba => ?_)
 refine za2 ?_
 exact (aI (by refine int_eq ?_; exact (szR_no (by simp only [wtRowS]; omega)).symm) tI)
 refine zad ?_
 refine sL [0] [] (fun q : Nat × Int => q.1 ≤ x.length ∧ 0 ≤ q.2 ∧ q.2 + x.length + ((x.take q.1).map wtRow).sum = l) (fun q : Nat × Int => [(1, RV.int q.2), (5, RV.int (q.1 : Int))]) (fun q : Nat × Int => []) (fun q : Nat × Int => x.length - q.1) (0, l - x.length) (by exact ⟨by simp, by dsimp only; omega, by simp⟩) (by exact aI (by exact rfl) (aI (by exact rfl) (tI))) (by exact ⟨⟩) ?_
 rintro ⟨k, ll⟩ ⟨hk, hll, hw⟩
 dsimp only at hk hll hw
 refine zae ?_
 refine rA ?_ (x := lN sl_128)
 refine rA ?_ (x := B_lss)
 refine sc (fun hbb => ?_) (fun hbb => ?_)
 have hlt : k < x.length := by omega
 refine zaf ?_
 refine zao ?_
 refine rM ?_
 refine rA ?_ (x := cL [(true, [val _, sl _ _]), (false, [val _])] [(true, [val _, sl .v _]), (false, [val _])] c_152 (hs := by exact sz_Row (by omega) (by omega)))
 refine zah ?_
 refine sc (fun hbc => ?_) (fun hbc => ?_)
 have hlt : k < x.length := by omega
 have hneg := szR_neg (w := wtRow x[k]) (l := ll) (by omega) hbc
 have hwk := wtk (f := wtRow) hlt
 refine zai ?_
 exact (aI (by refine int_eq ?_; exact (szR_no (by have := wtk_le (f := wtRow) x (k + 1); simp only [wtRowS]; omega)).symm) tI)
 have hlt : k < x.length := by omega
 have hpos := szR_pos (w := wtRow x[k]) (l := ll) hbc
 have hwk := wtk (f := wtRow) hlt
 refine zaj ?_
 refine nx (k + 1, ll - wtRow x[k]) (by exact ⟨by dsimp only; omega, by dsimp only; omega, by dsimp only; have := wtk (f := wtRow) hlt; omega⟩) (e := (by exact aI (by exact int_eq (szR_yes hpos)) (aI (by exact rfl) (tI))))
 refine zak ?_
 exact (aI (by refine int_eq ?_; (rw [szR_yes (by have : (x.take k) = x := List.take_of_length_le (by omega); rw [this] at hw; simp only [wtRowS]; omega)]; have : (x.take k) = x := List.take_of_length_le (by omega); rw [this] at hw; simp only [wtRowS]; omega)) tI)
theorem sz_VersionSS {p1 p2 : Fl} {x : List (List Version)} {l : Int}  (h0l : 0 ≤ l) (h1l : l ≤ 1048576) : SCall Tryz.prog 92 [(false, [sl .v (x.map (cVersionS p1 p2))]), (false, [val (vI l)])] (resRV [(false, [val (vI (szR l (wtVersionSS x)))])]) := by
 refine sF Tryz.func92 fun h0 w0 Fz0 => ?_
 refine sj 0 fun hl0 => ?_
 refine za0 ?_
 refine rA ?_ (x := lN sl_22)
 refine za1 ?_
 refine sc (fun hba => ?_) (fun hba => ?_)
 refine za2 ?_
 exact (aI (by refine int_eq ?_; exact (szR_no (by simp only [wtVersionSS]; omega)).symm) tI)
 refine zad ?_
 refine sL [0] [] (fun q : Nat × Int => q.1 ≤ x.length ∧ 0 ≤ q.2 ∧ q.2 + x.length + ((x.take q.1).map wtVersionS).sum = l) (fun q : Nat × Int => [(1, RV.int q.2), (5, RV.int (q.1 : Int))]) (fun q : Nat × Int => []) (fun q : Nat × Int => x.length - q.1) (0, l - x.length) (by exact ⟨by simp, by dsimp only; omega, by simp⟩) (by exact aI (by exact rfl) (aI (by exact rfl) (tI))) (by exact ⟨⟩) ?_
 rintro ⟨k, ll⟩ ⟨hk, hll, hw⟩
 dsimp only at hk hll hw
 refine zae ?_
 refine rA ?_ (x := lN sl_22)
 refine rA ?_ (x := B_lss)
 refine sc (fun hbb => ?_) (fun hbb => ?_)
 have hlt : k < x.length := by omega
 refine zaf ?_
 refine zap ?_
 refine rM ?_
 refine rA ?_ (x := cL [(false, [sl _ _]), (false, [val _])] [(false, [sl .v _]), (false, [val _])] c_168 (hs := by exact sz_VersionS (by omega) (by omega)))
 refine zah ?_
 refine sc (fun hbc => ?_) (fun hbc => ?_)
 have hlt : k < x.length := by omega
 have hneg := szR_neg (w := wtVersionS x[k]) (l := ll) (by omega) hbc
 have hwk := wtk (f := wtVersionS) hlt
 refine zai ?_
 exact (aI (by refine int_eq ?_; exact (szR_no (by have := wtk_le (f := wtVersionS) x (k + 1); simp only [wtVersionSS]; omega)).symm) tI)
 have hlt : k < x.length := by omega
 have hpos := szR_pos (w := wtVersionS x[k]) (l := ll) hbc
 have hwk := wtk (f := wtVersionS) hlt
 refine zaj ?_
 refine nx (k + 1, ll - wtVersionS x[k]) (by exact ⟨by dsimp only; omega, by dsimp only; omega, by dsimp only; have := wtk (f := wtVersionS) hlt; omega⟩) (e := (by exact aI (by exact int_eq (szR_yes hpos)) (aI (by exact rfl) (tI))))
 refine zak ?_
 exact (aI (by refine int_eq ?_; (rw [szR_yes (by have : (x.take k) = x := List.take_of_length_le (by omega); rw [this] at hw; simp only [wtVersionSS]; omega)]; have : (x.take k) = x := List.take_of_length_le (by omega); rw [this] at hw; simp only [wtVersionSS]; omega)) tI)
theorem sz_Active {p4 : Fl} {x : Active} {l : Int}  (h0l : 0 ≤ l) (h1l : l ≤ 1048576) : SCall Tryz.prog 93 [(true, [val (vI x.Query.Id), val (vI x.Query.Tenant), sl .v (x.Query.Conds.map cCond), sl .v (x.Query.Out.map cInt), val (vI x.Time), sl .v (x.Todo.map cInt), val (vI x.Age), val (vI x.Sent), val (vI x.Cap), sl .v (x.Rows.map (cRow p4))]), (false, [val (vI l)])] (resRV [(false, [val (vI (szR l (wtActive x)))])]) := by
 refine sF Tryz.func93 fun h0 w0 Fz0 => ?_
 refine sn 0 2 fun hl0_2 => ?_
 refine sn 0 3 fun hl0_3 => ?_
 refine sn 0 5 fun hl0_5 => ?_
 refine sn 0 9 fun hl0_9 => ?_
 have hw : (wtActive x : Int) = (wtQuery x.Query : Int) + (wtIntS x.Todo : Int) + (wtRowS x.Rows : Int) := by simp [wtActive, wtInt]
 refine zaq ?_
 refine za5 ?_
 refine rA ?_ (x := lF fd_130_0)
 refine rA ?_ (x := lD [val _, val _, sl .v _, sl .v _] ty_53)
 refine rM ?_
 refine zar ?_
 refine sc (fun hba => ?_) (fun hba => ?_)
 exact zas
 have hp0 := szR_pos (w := wtQuery x.Query) (l := l) hba
 have he0 := szR_yes hp0
 refine za8 ?_
 refine rA ?_ (x := lF fd_130_2)
 refine za6 ?_
 refine sc (fun hbb => ?_) (fun hbb => ?_)
 have hn1 := szR_neg (w := wtIntS x.Todo) (l := (szR l (wtQuery x.Query))) (by omega) hbb
 exact za7
 have hp1 := szR_pos (w := wtIntS x.Todo) (l := (szR l (wtQuery x.Query))) hbb
 have he1 := szR_yes hp1
 refine za8 ?_
 refine rA ?_ (x := lF fd_130_6)
 refine rA ?_ (x := lD [sl .v _] ty_128)
 refine rM ?_
 refine zat ?_
 refine sc (fun hbc => ?_) (fun hbc => ?_)
 have hn2 := szR_neg (w := wtRowS x.Rows) (l := (szR (szR l (wtQuery x.Query)) (wtIntS x.Todo))) (by omega) hbc
 exact za7
 have hp2 := szR_pos (w := wtRowS x.Rows) (l := (szR (szR l (wtQuery x.Query)) (wtIntS x.Todo))) hbc
 have he2 := szR_yes hp2
 refine za9 ?_
 exact (aI (by refine int_eq ?_; (have hz := szR_yes (l := l) (n := (wtActive x : Int)) (by omega); omega)) tI)
theorem sz_Finished {p3 : Fl} {x : Finished} {l : Int}  (h0l : 0 ≤ l) (h1l : l ≤ 1048576) : SCall Tryz.prog 94 [(true, [val (vI x.Query.Id), val (vI x.Query.Tenant), sl .v (x.Query.Conds.map cCond), sl .v (x.Query.Out.map cInt), val (vI x.Time), val (vI x.Steps), sl .v (x.Rows.map (cRow p3))]), (false, [val (vI l)])] (resRV [(false, [val (vI (szR l (wtFinished x)))])]) := by
 refine sF Tryz.func94 fun h0 w0 Fz0 => ?_
 refine sn 0 2 fun hl0_2 => ?_
 refine sn 0 3 fun hl0_3 => ?_
 refine sn 0 6 fun hl0_6 => ?_
 have hw : (wtFinished x : Int) = (wtQuery x.Query : Int) + (wtRowS x.Rows : Int) := by simp [wtFinished, wtInt]
 refine zau ?_
 refine za5 ?_
 refine rA ?_ (x := lF fd_133_0)
 refine rA ?_ (x := lD [val _, val _, sl .v _, sl .v _] ty_53)
 refine rM ?_
 refine zar ?_
 refine sc (fun hba => ?_) (fun hba => ?_)
 exact zas
 have hp0 := szR_pos (w := wtQuery x.Query) (l := l) hba
 have he0 := szR_yes hp0
 refine za8 ?_
 refine rA ?_ (x := lF fd_133_3)
 refine rA ?_ (x := lD [sl .v _] ty_128)
 refine rM ?_
 refine zat ?_
 refine sc (fun hbb => ?_) (fun hbb => ?_)
 have hn1 := szR_neg (w := wtRowS x.Rows) (l := (szR l (wtQuery x.Query))) (by omega) hbb
 exact za7
 have hp1 := szR_pos (w := wtRowS x.Rows) (l := (szR l (wtQuery x.Query))) hbb
 have he1 := szR_yes hp1
 refine za9 ?_
 exact (aI (by refine int_eq ?_; (have hz := szR_yes (l := l) (n := (wtFinished x : Int)) (by omega); omega)) tI)
theorem sz_Store {p1 p2 : Fl} {x : Store} {l : Int}  (h0l : 0 ≤ l) (h1l : l ≤ 1048576) : SCall Tryz.prog 37 [(true, [sl .v (x.Segments.map (cVersionS p1 p2)), val (vI x.Now)]), (false, [val (vI l)])] (resRV [(false, [val (vI (szR l (wtStore x)))])]) := by
 refine sF Tryz.func37 fun h0 w0 Fz0 => ?_
 refine sn 0 0 fun hl0_0 => ?_
 have hw : (wtStore x : Int) = (wtVersionSS x.Segments : Int) := by simp [wtStore, wtInt]
 refine zav ?_
 refine za5 ?_
 refine rA ?_ (x := lF fd_24_0)
 refine rA ?_ (x := lD [sl .v _] ty_22)
 refine rM ?_
 refine rA ?_ (x := cL [(false, [sl _ _]), (false, [val _])] [(false, [sl .v _]), (false, [val _])] c_92 (hs := by exact sz_VersionSS (by omega) (by omega)))
 refine zam ?_
 refine sc (fun hba => ?_) (fun hba => ?_)
 have hn0 := szR_neg (w := wtVersionSS x.Segments) (l := l) (by omega) hba
 exact za7
 have hp0 := szR_pos (w := wtVersionSS x.Segments) (l := l) hba
 have he0 := szR_yes hp0
 refine za9 ?_
 exact (aI (by refine int_eq ?_; (have hz := szR_yes (l := l) (n := (wtStore x : Int)) (by omega); omega)) tI)
theorem sz_ActiveS {p1 p2 p3 p4 p5 : Fl} {x : List Active} {l : Int}  (h0l : 0 ≤ l) (h1l : l ≤ 1048576) : SCall Tryz.prog 39 [(false, [sl .v (x.map (cActive p1 p2 p3 p4 p5))]), (false, [val (vI l)])] (resRV [(false, [val (vI (szR l (wtActiveS x)))])]) := by
 refine sF Tryz.func39 fun h0 w0 Fz0 => ?_
 refine sj 0 fun hl0 => ?_
 refine za0 ?_
 refine rA ?_ (x := lN sl_26)
 refine za1 ?_
 refine sc (fun hba => ?_) (fun hba => ?_)
 refine za2 ?_
 exact (aI (by refine int_eq ?_; exact (szR_no (by simp only [wtActiveS]; omega)).symm) tI)
 refine zad ?_
 refine sL [0] [] (fun q : Nat × Int => q.1 ≤ x.length ∧ 0 ≤ q.2 ∧ q.2 + x.length + ((x.take q.1).map wtActive).sum = l) (fun q : Nat × Int => [(1, RV.int q.2), (5, RV.int (q.1 : Int))]) (fun q : Nat × Int => []) (fun q : Nat × Int => x.length - q.1) (0, l - x.length) (by exact ⟨by simp, by dsimp only; omega, by simp⟩) (by exact aI (by exact rfl) (aI (by exact rfl) (tI))) (by exact ⟨⟩) ?_
 rintro ⟨k, ll⟩ ⟨hk, hll, hw⟩
 dsimp only at hk hll hw
 refine zae ?_
 refine rA ?_ (x := lN sl_26)
 refine rA ?_ (x := B_lss)
 refine sc (fun hbb => ?_) (fun hbb => ?_)
 have hlt : k < x.length := by omega
 refine zaf ?_
 refine zaw ?_
 refine rM ?_
 refine rA ?_ (x := cL [(true, [val _, val _, sl _ _, sl _ _, val _, sl _ _, val _, val _, val _, sl _ _]), (false, [val _])] [(true, [val _, val _, sl .v _, sl .v _, val _, sl .v _, val _, val _, val _, sl .v _]), (false, [val _])] c_93 (hs := by exact sz_Active (by omega) (by omega)))
 refine zah ?_
 refine sc (fun hbc => ?_) (fun hbc => ?_)
 have hlt : k < x.length := by omega
 have hneg := szR_neg (w := wtActive x[k]) (l := ll) (by omega) hbc
 have hwk := wtk (f := wtActive) hlt
 refine zai ?_
 exact (aI (by refine int_eq ?_; exact (szR_no (by have := wtk_le (f := wtActive) x (k + 1); simp only [wtActiveS]; omega)).symm) tI)
 have hlt : k < x.length := by omega
 have hpos := szR_pos (w := wtActive x[k]) (l := ll) hbc
 have hwk := wtk (f := wtActive) hlt
 refine zaj ?_
 refine nx (k + 1, ll - wtActive x[k]) (by exact ⟨by dsimp only; omega, by dsimp only; omega, by dsimp only; have := wtk (f := wtActive) hlt; omega⟩) (e := (by exact aI (by exact int_eq (szR_yes hpos)) (aI (by exact rfl) (tI))))
 refine zak ?_
 exact (aI (by refine int_eq ?_; (rw [szR_yes (by have : (x.take k) = x := List.take_of_length_le (by omega); rw [this] at hw; simp only [wtActiveS]; omega)]; have : (x.take k) = x := List.take_of_length_le (by omega); rw [this] at hw; simp only [wtActiveS]; omega)) tI)
theorem sz_FinishedS {p1 p2 p3 p4 : Fl} {x : List Finished} {l : Int}  (h0l : 0 ≤ l) (h1l : l ≤ 1048576) : SCall Tryz.prog 40 [(false, [sl .v (x.map (cFinished p1 p2 p3 p4))]), (false, [val (vI l)])] (resRV [(false, [val (vI (szR l (wtFinishedS x)))])]) := by
 refine sF Tryz.func40 fun h0 w0 Fz0 => ?_
 refine sj 0 fun hl0 => ?_
 refine za0 ?_
 refine rA ?_ (x := lN sl_27)
 refine za1 ?_
 refine sc (fun hba => ?_) (fun hba => ?_)
 refine za2 ?_
 exact (aI (by refine int_eq ?_; exact (szR_no (by simp only [wtFinishedS]; omega)).symm) tI)
 refine zad ?_
 refine sL [0] [] (fun q : Nat × Int => q.1 ≤ x.length ∧ 0 ≤ q.2 ∧ q.2 + x.length + ((x.take q.1).map wtFinished).sum = l) (fun q : Nat × Int => [(1, RV.int q.2), (5, RV.int (q.1 : Int))]) (fun q : Nat × Int => []) (fun q : Nat × Int => x.length - q.1) (0, l - x.length) (by exact ⟨by simp, by dsimp only; omega, by simp⟩) (by exact aI (by exact rfl) (aI (by exact rfl) (tI))) (by exact ⟨⟩) ?_
 rintro ⟨k, ll⟩ ⟨hk, hll, hw⟩
 dsimp only at hk hll hw
 refine zae ?_
 refine rA ?_ (x := lN sl_27)
 refine rA ?_ (x := B_lss)
 refine sc (fun hbb => ?_) (fun hbb => ?_)
 have hlt : k < x.length := by omega
 refine zaf ?_
 refine zax ?_
 refine rM ?_
 refine rA ?_ (x := cL [(true, [val _, val _, sl _ _, sl _ _, val _, val _, sl _ _]), (false, [val _])] [(true, [val _, val _, sl .v _, sl .v _, val _, val _, sl .v _]), (false, [val _])] c_94 (hs := by exact sz_Finished (by omega) (by omega)))
 refine zah ?_
 refine sc (fun hbc => ?_) (fun hbc => ?_)
 have hlt : k < x.length := by omega
 have hneg := szR_neg (w := wtFinished x[k]) (l := ll) (by omega) hbc
 have hwk := wtk (f := wtFinished) hlt
 refine zai ?_
 exact (aI (by refine int_eq ?_; exact (szR_no (by have := wtk_le (f := wtFinished) x (k + 1); simp only [wtFinishedS]; omega)).symm) tI)
 have hlt : k < x.length := by omega
 have hpos := szR_pos (w := wtFinished x[k]) (l := ll) hbc
 have hwk := wtk (f := wtFinished) hlt
 refine zaj ?_
 refine nx (k + 1, ll - wtFinished x[k]) (by exact ⟨by dsimp only; omega, by dsimp only; omega, by dsimp only; have := wtk (f := wtFinished) hlt; omega⟩) (e := (by exact aI (by exact int_eq (szR_yes hpos)) (aI (by exact rfl) (tI))))
 refine zak ?_
 exact (aI (by refine int_eq ?_; (rw [szR_yes (by have : (x.take k) = x := List.take_of_length_le (by omega); rw [this] at hw; simp only [wtFinishedS]; omega)]; have : (x.take k) = x := List.take_of_length_le (by omega); rw [this] at hw; simp only [wtFinishedS]; omega)) tI)
theorem sz_Engine {p1 p2 p5 p6 p7 p8 p9 p11 p12 p13 p14 p16 p17 p18 : Fl} {x : Engine} {l : Int}  (h0l : 0 ≤ l) (h1l : l ≤ 1048576) : SCall Tryz.prog 9 [(true, [sl .v (x.Store.Segments.map (cVersionS p1 p2)), val (vI x.Store.Now), val (vI x.Cursor), sl .v (x.Order.map cInt), sl .v (x.Active.map (cActive p5 p6 p7 p8 p9)), sl .v (x.Done.map (cFinished p11 p12 p13 p14)), sl .v (x.Ledger.map (cCharge p16 p17 p18)), val (vI x.Steps)]), (false, [val (vI l)])] (resRV [(false, [val (vI (szR l (wtEngine x)))])]) := by
 refine sF Tryz.func9 fun h0 w0 Fz0 => ?_
 refine sn 0 0 fun hl0_0 => ?_
 refine sn 0 3 fun hl0_3 => ?_
 refine sn 0 4 fun hl0_4 => ?_
 refine sn 0 5 fun hl0_5 => ?_
 refine sn 0 6 fun hl0_6 => ?_
 have hw : (wtEngine x : Int) = (wtStore x.Store : Int) + (wtIntS x.Order : Int) + (wtActiveS x.Active : Int) + (wtFinishedS x.Done : Int) + (wtChargeS x.Ledger : Int) := by simp [wtEngine, wtInt]
 refine zay ?_
 refine za5 ?_
 refine rA ?_ (x := lF fd_30_0)
 refine rA ?_ (x := lD [sl .v _, val _] ty_24)
 refine rM ?_
 refine rA ?_ (x := cL [(true, [sl _ _, val _]), (false, [val _])] [(true, [sl .v _, val _]), (false, [val _])] c_37 (hs := by exact sz_Store (by omega) (by omega)))
 refine zam ?_
 refine sc (fun hba => ?_) (fun hba => ?_)
 have hn0 := szR_neg (w := wtStore x.Store) (l := l) (by omega) hba
 exact za7
 have hp0 := szR_pos (w := wtStore x.Store) (l := l) hba
 have he0 := szR_yes hp0
 refine za8 ?_
 refine rA ?_ (x := lF fd_30_2)
 refine za6 ?_
 refine sc (fun hbb => ?_) (fun hbb => ?_)
 have hn1 := szR_neg (w := wtIntS x.Order) (l := (szR l (wtStore x.Store))) (by omega) hbb
 exact za7
 have hp1 := szR_pos (w := wtIntS x.Order) (l := (szR l (wtStore x.Store))) hbb
 have he1 := szR_yes hp1
 refine za8 ?_
 refine rA ?_ (x := lF fd_30_3)
 refine rA ?_ (x := lD [sl .v _] ty_26)
 refine rM ?_
 refine rA ?_ (x := cL [(false, [sl _ _]), (false, [val _])] [(false, [sl .v _]), (false, [val _])] c_39 (hs := by exact sz_ActiveS (by omega) (by omega)))
 refine zam ?_
 refine sc (fun hbc => ?_) (fun hbc => ?_)
 have hn2 := szR_neg (w := wtActiveS x.Active) (l := (szR (szR l (wtStore x.Store)) (wtIntS x.Order))) (by omega) hbc
 exact za7
 have hp2 := szR_pos (w := wtActiveS x.Active) (l := (szR (szR l (wtStore x.Store)) (wtIntS x.Order))) hbc
 have he2 := szR_yes hp2
 refine za8 ?_
 refine rA ?_ (x := lF fd_30_4)
 refine rA ?_ (x := lD [sl .v _] ty_27)
 refine rM ?_
 refine rA ?_ (x := cL [(false, [sl _ _]), (false, [val _])] [(false, [sl .v _]), (false, [val _])] c_40 (hs := by exact sz_FinishedS (by omega) (by omega)))
 refine zam ?_
 refine sc (fun hbd => ?_) (fun hbd => ?_)
 have hn3 := szR_neg (w := wtFinishedS x.Done) (l := (szR (szR (szR l (wtStore x.Store)) (wtIntS x.Order)) (wtActiveS x.Active))) (by omega) hbd
 exact za7
 have hp3 := szR_pos (w := wtFinishedS x.Done) (l := (szR (szR (szR l (wtStore x.Store)) (wtIntS x.Order)) (wtActiveS x.Active))) hbd
 have he3 := szR_yes hp3
 refine za8 ?_
 refine rA ?_ (x := lF fd_30_5)
 refine rA ?_ (x := lD [sl .v _] ty_28)
 refine rM ?_
 refine rA ?_ (x := cL [(false, [sl _ _]), (false, [val _])] [(false, [sl .v _]), (false, [val _])] c_41 (hs := by exact sz_ChargeS (by omega) (by omega)))
 refine zam ?_
 refine sc (fun hbe => ?_) (fun hbe => ?_)
 have hn4 := szR_neg (w := wtChargeS x.Ledger) (l := (szR (szR (szR (szR l (wtStore x.Store)) (wtIntS x.Order)) (wtActiveS x.Active)) (wtFinishedS x.Done))) (by omega) hbe
 exact za7
 have hp4 := szR_pos (w := wtChargeS x.Ledger) (l := (szR (szR (szR (szR l (wtStore x.Store)) (wtIntS x.Order)) (wtActiveS x.Active)) (wtFinishedS x.Done))) hbe
 have he4 := szR_yes hp4
 refine za9 ?_
 exact (aI (by refine int_eq ?_; (have hz := szR_yes (l := l) (n := (wtEngine x : Int)) (by omega); omega)) tI)
end Go.Proofs.YteflgldonmgejaaGreat
