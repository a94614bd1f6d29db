/- What functions of the program compute. No condition. -/
import Derived.Test.YtloipjaiceifbaaCToTopAlone
import Derived.Test.YtloipjaiceifbaaCEqTopAlone
import Derived.Test.YtloipjaiceifbaaCMkTopAlone
import Derived.Test.YtloipjaiceifbaaCHeTopAlone
import Derived.Test.YtloipjaiceifbaaCTopBTopAlone
import Derived.KernelRfl
set_option linter.unusedVariables false
set_option linter.unusedSimpArgs false
namespace Go.Proofs.Ytloipjaiceifbaa
open Go Go.RowKit M
set_option maxRecDepth 10000
attribute [local irreducible] PV.Lcl PV.LclR RV.Lcl
theorem FLawTopAlone_c_17 : callI Try.prog 17 = true := by kernel_rfl
theorem FLawTopAlone_c_18 : callI Try.prog 18 = true := by kernel_rfl
theorem FLawTopAlone_c_19 : callI Try.prog 19 = true := by kernel_rfl
theorem FLawTopAlone_c_20 : callI Try.prog 20 = true := by kernel_rfl
theorem FLawTopAlone_c_21 : callI Try.prog 21 = true := by kernel_rfl
theorem FLawTopAlone_c_22 : callI Try.prog 22 = true := by kernel_rfl
theorem FLawTopAlone_c_23 : callI Try.prog 23 = true := by kernel_rfl
theorem FLawTopAlone_ty_3 : tyI Try.prog 3 = some (false, 1) := by kernel_rfl
theorem FLawTopAlone_ty_30 : tyI Try.prog 30 = some (false, 1) := by kernel_rfl
theorem law_TopAlone {p1 : Fl} {aRows : List Row} {aField : Int} {aK : Int}  : SCall Try.prog 4 [(false, [PV.sl .v (aRows.map (cRow p1))]), (false, [PV.val (vI aField)]), (false, [PV.val (vI aK)])] (resRV [(false, [PV.val (.bool true)])]) := by
 refine scall_lo (largs := fun L => [(false, [PV.sl (.lo L) (aRows.map (cRow (.lo L)))]), (false, [PV.val (vI aField)]), (false, [PV.val (vI aK)])]) (rs := [(false, [PV.val (.bool true)])]) Try.func4 rfl (Nat.le_of_ble_eq_true rfl) (fun L => by exact (And.intro (And.intro rfl (ToBL.cons (PV.tob_map (fun _ => Nat.le_of_ble_eq_true rfl) (fun _ => (ToBL.cons PV.tob_refl (ToBL.cons (PV.tob_map (fun _ => Nat.le_of_ble_eq_true rfl) (fun _ => (ToBL.cons PV.tob_refl ToBL.nil))) ToBL.nil)))) ToBL.nil)) (And.intro (And.intro rfl (ToBL.cons PV.tob_refl ToBL.nil)) (And.intro (And.intro rfl (ToBL.cons PV.tob_refl ToBL.nil)) True.intro)))) (fun L => by exact (borA_cons (BorL.cons (PV.bor_lo _ _) BorL.nil) (borA_cons (BorL.cons (PV.bor_val _) BorL.nil) (borA_cons (BorL.cons (PV.bor_val _) BorL.nil) borA_nil)))) ?_
 intro w0 Fz0
 refine sw_len (s := 0) rfl fun hl0 => ?_
 try rw [List.length_map] at hl0
 refine sw_seq ?_
 refine sw_reg ?_
 refine rA ?_ (x := kA)
 refine sw_seq ?_
 refine sO [(0, _), (1, _), (2, _), (6, _)] [] ?_
 refine sw_reg ?_
 refine rA ?_ (x := kA)
 refine sw_seq ?_
 refine sO [(0, _), (1, _), (2, _), (6, _), (7, _)] [] ?_
 refine sw_reg ?_
 refine rA ?_ (x := vM false [PV.sl (.lo _) _])
 refine rA ?_ (x := sM)
 refine rA ?_ (x := cL [(false, [PV.sl (.lo _) _]), (false, [PV.val _])] [(false, [PV.sl .v _]), (false, [PV.val _])] FLawTopAlone_c_17 (hs := by exact sz_RowS (by omega) (by omega)))
 refine rA ?_ (x := sA)
 refine sw_seq ?_
 refine sw_seq ?_
 refine sO [(0, _), (1, _), (2, _), (6, _), (7, _)] [] ?_
 refine sw_reg ?_
 refine rA ?_ (x := sM)
 refine rA ?_ (x := B_lss)
 refine sw_cond (t := 19) rfl (fun hb1 => ?_) (fun hb1 => ?_)
 ·try simp only [q1, q2, q3, q4, q5, q6, q7, q8, q9] at hb1
  refine sw_seq ?_
  refine sO [(0, _), (1, _), (2, _), (6, _), (7, _)] [] ?_
  refine sw_reg ?_
  refine rA ?_ (x := kA)
  refine sw_ret ?_
  exact (And.intro (by exact rfl) True.intro)
 ·try simp only [q1, q2, q3, q4, q5, q6, q7, q8, q9] at hb1
  have hp0 := szR_pos (w := wtRowS aRows) (l := 1048576) hb1
  have he0 := szR_yes hp0
  have hw0 := topAlone_wt aRows aField aK
  refine sw_skip ?_
  refine sw_seq ?_
  refine sO [(0, _), (1, _), (2, _), (6, _), (7, _)] [] ?_
  refine sw_reg ?_
  refine rA ?_ (x := vM false [PV.sl (.lo _) _])
  refine rA ?_ (x := cL [(false, [PV.sl (.lo _) _])] [(false, [PV.sl .v _])] FLawTopAlone_c_19 (hs := by exact to_RowS (by omega)))
  refine rA ?_ (x := sM)
  refine rA ?_ (x := sM)
  refine rA ?_ (x := cL [(false, [PV.sl _ _]), (false, [PV.val _]), (false, [PV.val _])] [(false, [PV.sl .v _]), (false, [PV.val _]), (false, [PV.val _])] FLawTopAlone_c_18 (hs := by exact (spec_TopAlone (by omega))))
  refine rA ?_ (x := vA false [PV.sl .v _])
  refine sO [(0, _), (1, _), (2, _), (8, _)] [] ?_
  refine sw_low (fun L => [(0, RV.sv false [PV.sl (.lo L) (aRows.map (cRow (.lo L)))]), (1, RV.sv false [PV.val (vI aField)]), (2, RV.sv false [PV.val (vI aK)]), (8, RV.sv false [PV.sl (.lo L) ((topAlone aRows aField aK).map (cRow (.lo L)))])]) (fun L => by exact (LowS.cons (LowR.sv (ToBL.cons (PV.tob_map (fun _ => Nat.le_of_ble_eq_true rfl) (fun _ => (ToBL.cons PV.tob_refl (ToBL.cons (PV.tob_map (fun _ => Nat.le_of_ble_eq_true rfl) (fun _ => (ToBL.cons PV.tob_refl ToBL.nil))) ToBL.nil)))) ToBL.nil) (BorL.cons (PV.bor_lo _ _) BorL.nil)) (LowS.cons (LowR.sv (ToBL.cons PV.tob_refl ToBL.nil) (BorL.cons (PV.bor_val _) BorL.nil)) (LowS.cons (LowR.sv (ToBL.cons PV.tob_refl ToBL.nil) (BorL.cons (PV.bor_val _) BorL.nil)) (LowS.cons (LowR.sv (ToBL.cons (PV.tob_map (fun _ => Nat.le_of_ble_eq_true rfl) (fun _ => (ToBL.cons PV.tob_refl (ToBL.cons (PV.tob_map (fun _ => Nat.le_of_ble_eq_true rfl) (fun _ => (ToBL.cons PV.tob_refl ToBL.nil))) ToBL.nil)))) ToBL.nil) (BorL.cons (PV.bor_lo _ _) BorL.nil)) True.intro))))) fun w0 Fz0 => ?_
  refine sw_seq ?_
  refine sw_reg ?_
  refine rA ?_ (x := vM false [PV.sl (.lo _) _])
  refine rA ?_ (x := cL [(false, [PV.sl (.lo _) _])] [(false, [PV.sl .v _])] FLawTopAlone_c_19 (hs := by exact to_RowS (by omega)))
  refine rA ?_ (x := tA)
  refine sw_seq ?_
  refine sO [(0, _), (1, _), (2, _), (8, _), (9, _)] [] ?_
  refine sw_reg ?_
  refine rA ?_ (x := vM false [PV.sl .v _])
  refine rA ?_ (x := sM)
  refine rA ?_ (x := sM)
  refine rA ?_ (x := cL [(false, [PV.sl _ _]), (false, [PV.val _]), (false, [PV.val _])] [(false, [PV.sl .v _]), (false, [PV.val _]), (false, [PV.val _])] FLawTopAlone_c_20 (hs := by exact (impl_TopAlone (by omega))))
  refine rA ?_ (x := tA)
  refine sw_seq ?_
  refine sw_seq ?_
  refine sO [(0, _), (1, _), (2, _), (8, _), (9, _), (10, _)] [] ?_
  refine sw_reg ?_
  refine rA ?_ (x := vM false [PV.sl .v _])
  refine rA ?_ (x := vM false [PV.sl (.lo _) _])
  refine rA ?_ (x := cL [(false, [PV.sl _ _]), (false, [PV.sl (.lo _) _])] [(false, [PV.sl .v _]), (false, [PV.sl .v _])] FLawTopAlone_c_21 (hs := by exact eq_RowS))
  refine rA ?_ (x := nT)
  refine sw_cond (t := 34) rfl (fun hb2 => ?_) (fun hb2 => ?_)
  ·try simp only [q1, q2, q3, q4, q5, q6, q7, q8, q9] at hb2
   first | exact absurd rfl hb2 | (simp [deq_self] at hb2; done) | omega
  ·try simp only [q1, q2, q3, q4, q5, q6, q7, q8, q9] at hb2
   refine sw_skip ?_
   refine sw_seq ?_
   refine sw_seq ?_
   refine sO [(0, _), (1, _), (2, _), (8, _), (9, _), (10, _)] [] ?_
   refine sw_reg ?_
   refine rA ?_ (x := vM false [PV.sl .v _])
   refine rA ?_ (x := vM false [PV.sl (.lo _) _])
   refine rA ?_ (x := cL [(false, [PV.sl (.lo _) _])] [(false, [PV.sl .v _])] FLawTopAlone_c_19 (hs := by exact to_RowS (by omega)))
   refine rA ?_ (x := cL [(false, [PV.sl _ _]), (false, [PV.sl _ _])] [(false, [PV.sl .v _]), (false, [PV.sl .v _])] FLawTopAlone_c_21 (hs := by exact eq_RowS))
   refine rA ?_ (x := nT)
   refine sw_cond (t := 39) rfl (fun hb3 => ?_) (fun hb3 => ?_)
   ·try simp only [q1, q2, q3, q4, q5, q6, q7, q8, q9] at hb3
    first | exact absurd rfl hb3 | (simp [deq_self] at hb3; done) | omega
   ·try simp only [q1, q2, q3, q4, q5, q6, q7, q8, q9] at hb3
    refine sw_skip ?_
    refine sw_seq ?_
    refine sO [(0, _), (1, _), (2, _), (8, _), (9, _), (10, _)] [] ?_
    refine sw_reg ?_
    refine rA ?_ (x := kA)
    refine sw_seq ?_
    refine sO [(0, _), (1, _), (2, _), (8, _), (9, _), (10, _), (11, _)] [] ?_
    refine sw_nmS (s := 9) (by exact rfl) fun us hus => ?_
    obtain ⟨u4_0, rfl⟩ := us_1 hus
    have hq5 := mkL_le mkE_Row_le aRows 1
    have hq6 := ctL_RowS aRows 1
    refine sO [(0, _), (1, _), (2, _), (8, _), (9, _), (10, _), (11, _)] [] ?_
    refine sw_regL ?_
    refine swl_step (by exact ⟨rfl, ⟨⟩⟩) (by exact ⟨⟩) (LocG.of rfl (loc_copy (r' := RV.sv false [PV.val _]) (.inl rfl) (by decide) (by exact Cp.sv (ToL.cons PV.nv_val ToL.nil) (BorL.cons (PV.bor_val _) BorL.nil)))) nofree ?_
    refine swl_step (by exact ⟨rfl, ⟨⟩⟩) (by exact ⟨⟩) (LocG.of rfl (loc_copy (.inl rfl) (by decide) (by exact Cp.sc))) nofree ?_
    refine swl_of (l := [(0, RV.sv false [PV.sl (.lo _) _]), (1, RV.sv false [PV.val _]), (2, RV.sv false [PV.val _]), (8, RV.sv false [PV.sl (.lo _) _]), (9, RV.sv false [PV.nv _ (PV.sl _ _)]), (10, RV.sv false [PV.sl _ _]), (11, RV.sv false [PV.val _]), (40, RV.sv false [PV.val _]), (41, RV.sv false [PV.val _])]) (b := []) (by exact ⟨rfl, rfl, rfl, rfl, rfl, rfl, rfl, rfl, rfl, ⟨⟩⟩) (by exact ⟨⟩) ?_
    refine swl_ucallS (s := 9) (L := (Lw w0.heap.size)) (qr := [(false, [PV.val _])]) (as_ := [(false, [PV.val _])]) (by decide) FLawTopAlone_c_22 rfl (by exact rfl) (by exact (Nm.val Nm.nil)) (by exact ⟨rfl, ⟨⟩⟩) (by exact (And.intro (by exact ⟨⟩) True.intro)) (by exact And.intro (And.intro rfl (ToL.cons (PV.To.refl _) ToL.nil)) True.intro) (by exact rfl) (by exact (Nm.nv Nm.nil)) (by exact (OwnTo.nv OwnTo.nil)) (by exact mark_RowS (x := aRows) (by omega) (by omega)) (by exact (OwnFrom.nv OwnFrom.nil)) (fun x hx => hx) (by exact (And.intro (.inr (RV.lcl_sv (LclC.cons (PV.lcl_lo (LclRC.map fun x => (LclRC.cons PV.lclr_val (LclRC.cons (PV.lclr_lo (LclRC.map fun x => (LclRC.cons PV.lclr_val LclRC.nil))) LclRC.nil)))) LclC.nil))) (And.intro (.inr (RV.lcl_sv (LclC.cons PV.lcl_val LclC.nil))) (And.intro (.inr (RV.lcl_sv (LclC.cons PV.lcl_val LclC.nil))) (And.intro (.inr (RV.lcl_sv (LclC.cons (PV.lcl_lo (LclRC.map fun x => (LclRC.cons PV.lclr_val (LclRC.cons (PV.lclr_lo (LclRC.map fun x => (LclRC.cons PV.lclr_val LclRC.nil))) LclRC.nil)))) LclC.nil))) (And.intro (.inl rfl) (And.intro (.inr (RV.lcl_sv (LclC.cons (PV.lcl_own (LclC.map fun x => (LclC.cons PV.lcl_val (LclC.cons (PV.lcl_own (LclC.map fun x => (LclC.cons PV.lcl_val LclC.nil))) LclC.nil)))) LclC.nil))) (And.intro (.inr (RV.lcl_sv (LclC.cons PV.lcl_val LclC.nil))) (And.intro (.inr (RV.lcl_sv (LclC.cons PV.lcl_val LclC.nil))) (And.intro (.inr (RV.lcl_sv (LclC.cons PV.lcl_val LclC.nil))) True.intro)))))))))) (by exact ⟨⟩) rfl (by decide) ?_
    refine swl_step (by exact ⟨rfl, ⟨⟩⟩) (by exact ⟨⟩) (LocG.of rfl (loc_copy (.inr rfl) (by decide) (by exact Cp.sc))) nofree ?_
    refine swl_nil ?_
    refine sw_seq ?_
    refine sw_seq ?_
    refine sO [(0, _), (1, _), (2, _), (8, _), (9, _), (10, _), (11, _)] [] ?_
    refine sw_reg ?_
    refine rA ?_ (x := sM)
    refine rA ?_ (x := B_lss)
    refine rA ?_ (x := sM)
    refine RunS.cases (s := 45) rfl (fun g7 => ?_) (fun g7 => ?_)
    ·first | (simp [deq_self] at g7; done) | (simp only [decide_eq_true_eq] at g7; omega)
    ·have sg7 := g7
     try simp only [q1, q2, q3, q4, q5, q6, q7, q8, q9] at sg7
     refine rB g7 ?_ (x := vM false [PV.sl .v _])
     refine rB g7 ?_ (x := vM false [PV.sl (.lo _) _])
     refine rB g7 ?_ (x := cL [(false, [PV.sl _ _]), (false, [PV.sl (.lo _) _])] [(false, [PV.sl .v _]), (false, [PV.sl .v _])] FLawTopAlone_c_21 (hs := by exact eq_RowS))
     refine rB g7 ?_ (x := nT)
     refine rA ?_ (x := pkF g7)
     refine sw_cond (t := 50) rfl (fun hb8 => ?_) (fun hb8 => ?_)
     ·try simp only [q1, q2, q3, q4, q5, q6, q7, q8, q9] at hb8
      first | exact absurd rfl hb8 | (simp [deq_self] at hb8; done) | omega
     ·try simp only [q1, q2, q3, q4, q5, q6, q7, q8, q9] at hb8
      refine sw_skip ?_
      refine sw_seq ?_
      refine sO [(0, _), (1, _), (2, _), (8, _), (9, _), (10, _), (11, _)] [] ?_
      refine sw_reg ?_
      refine rA ?_ (x := kA)
      refine sw_seq ?_
      refine sO [(0, _), (1, _), (2, _), (8, _), (9, _), (10, _), (11, _), (12, _)] [] ?_
      refine sw_nmS (s := 10) (by exact rfl) fun us hus => ?_
      obtain ⟨u9_0, rfl⟩ := us_1 hus
      have hq10 := mkL_le mkE_Row_le (topAlone aRows aField aK) 1
      have hq11 := ctL_RowS (topAlone aRows aField aK) 1
      refine sO [(0, _), (1, _), (2, _), (8, _), (9, _), (10, _), (11, _), (12, _)] [] ?_
      refine sw_regL ?_
      refine swl_step (by exact ⟨rfl, ⟨⟩⟩) (by exact ⟨⟩) (LocG.of rfl (loc_copy (r' := RV.sv false [PV.val _]) (.inl rfl) (by decide) (by exact Cp.sv (ToL.cons PV.nv_val ToL.nil) (BorL.cons (PV.bor_val _) BorL.nil)))) nofree ?_
      refine swl_step (by exact ⟨rfl, ⟨⟩⟩) (by exact ⟨⟩) (LocG.of rfl (loc_copy (.inl rfl) (by decide) (by exact Cp.sc))) nofree ?_
      refine swl_of (l := [(0, RV.sv false [PV.sl (.lo _) _]), (1, RV.sv false [PV.val _]), (2, RV.sv false [PV.val _]), (8, RV.sv false [PV.sl (.lo _) _]), (9, RV.sv false [PV.nv _ (PV.sl _ _)]), (10, RV.sv false [PV.nv _ (PV.sl _ _)]), (11, RV.sv false [PV.val _]), (12, RV.sv false [PV.val _]), (51, RV.sv false [PV.val _]), (52, RV.sv false [PV.val _])]) (b := []) (by exact ⟨rfl, rfl, rfl, rfl, rfl, rfl, rfl, rfl, rfl, rfl, ⟨⟩⟩) (by exact ⟨⟩) ?_
      refine swl_ucallS (s := 10) (L := (Lw w0.heap.size)) (qr := [(false, [PV.val _])]) (as_ := [(false, [PV.val _])]) (by decide) FLawTopAlone_c_22 rfl (by exact rfl) (by exact (Nm.val Nm.nil)) (by exact ⟨rfl, ⟨⟩⟩) (by exact (And.intro (by exact ⟨⟩) True.intro)) (by exact And.intro (And.intro rfl (ToL.cons (PV.To.refl _) ToL.nil)) True.intro) (by exact rfl) (by exact (Nm.nv Nm.nil)) (by exact (OwnTo.nv OwnTo.nil)) (by exact mark_RowS (x := (topAlone aRows aField aK)) (by omega) (by omega)) (by exact (OwnFrom.nv OwnFrom.nil)) (fun x hx => hx) (by exact (And.intro (.inr (RV.lcl_sv (LclC.cons (PV.lcl_lo (LclRC.map fun x => (LclRC.cons PV.lclr_val (LclRC.cons (PV.lclr_lo (LclRC.map fun x => (LclRC.cons PV.lclr_val LclRC.nil))) LclRC.nil)))) LclC.nil))) (And.intro (.inr (RV.lcl_sv (LclC.cons PV.lcl_val LclC.nil))) (And.intro (.inr (RV.lcl_sv (LclC.cons PV.lcl_val LclC.nil))) (And.intro (.inr (RV.lcl_sv (LclC.cons (PV.lcl_lo (LclRC.map fun x => (LclRC.cons PV.lclr_val (LclRC.cons (PV.lclr_lo (LclRC.map fun x => (LclRC.cons PV.lclr_val LclRC.nil))) LclRC.nil)))) LclC.nil))) (And.intro (.inr (RV.lcl_sv (LclC.cons (PV.lcl_nv (PV.lcl_own (LclC.map fun x => (LclC.cons PV.lcl_val (LclC.cons (PV.lcl_own (LclC.map fun x => (LclC.cons PV.lcl_val LclC.nil))) LclC.nil))))) LclC.nil))) (And.intro (.inl rfl) (And.intro (.inr (RV.lcl_sv (LclC.cons PV.lcl_val LclC.nil))) (And.intro (.inr (RV.lcl_sv (LclC.cons PV.lcl_val LclC.nil))) (And.intro (.inr (RV.lcl_sv (LclC.cons PV.lcl_val LclC.nil))) (And.intro (.inr (RV.lcl_sv (LclC.cons PV.lcl_val LclC.nil))) True.intro))))))))))) (by exact ⟨⟩) rfl (by decide) ?_
      refine swl_step (by exact ⟨rfl, ⟨⟩⟩) (by exact ⟨⟩) (LocG.of rfl (loc_copy (.inr rfl) (by decide) (by exact Cp.sc))) nofree ?_
      refine swl_nil ?_
      refine sw_seq ?_
      refine sO [(0, _), (1, _), (2, _), (8, _), (9, _), (10, _), (11, _), (12, _)] [] ?_
      refine sw_reg ?_
      refine rA ?_ (x := kA)
      refine sw_seq ?_
      refine sO [(0, _), (1, _), (2, _), (8, _), (9, _), (10, _), (11, _), (12, _), (13, _)] [] ?_
      refine sw_reg ?_
      refine rA ?_ (x := loc_copy (r' := RV.sv false [PV.sl .v _]) (.inl rfl) (by decide) (by exact Cp.sv (ToL.cons (PV.nv_to PV.to_none) ToL.nil) (BorL.cons (PV.bor_sl _) BorL.nil)))
      refine rA ?_ (x := sM)
      refine rA ?_ (x := cL [(false, [PV.sl _ _]), (false, [PV.val _])] [(false, [PV.sl .v _]), (false, [PV.val _])] FLawTopAlone_c_23 (hs := by exact held_RowS (by omega) (by omega)))
      refine rA ?_ (x := sA)
      refine sw_seq ?_
      refine sw_seq ?_
      refine sO [(0, _), (1, _), (2, _), (8, _), (9, _), (10, _), (11, _), (12, _), (13, _)] [] ?_
      refine sw_reg ?_
      refine rA ?_ (x := sM)
      refine rA ?_ (x := B_lss)
      refine sw_cond (t := 58) rfl (fun hb12 => ?_) (fun hb12 => ?_)
      ·try simp only [q1, q2, q3, q4, q5, q6, q7, q8, q9] at hb12
       first | exact absurd rfl hb12 | (simp [deq_self] at hb12; done) | omega
      ·try simp only [q1, q2, q3, q4, q5, q6, q7, q8, q9] at hb12
       refine sw_skip ?_
       refine sw_seq ?_
       refine sw_seq ?_
       refine sO [(0, _), (1, _), (2, _), (8, _), (9, _), (10, _), (11, _), (12, _), (13, _)] [] ?_
       refine sw_reg ?_
       refine rA ?_ (x := sM)
       refine rA ?_ (x := sM)
       refine rA ?_ (x := B_neq)
       refine sw_cond (t := 61) rfl (fun hb13 => ?_) (fun hb13 => ?_)
       ·try simp only [q1, q2, q3, q4, q5, q6, q7, q8, q9] at hb13
        first | exact absurd rfl hb13 | (simp [deq_self] at hb13; done) | omega
       ·try simp only [q1, q2, q3, q4, q5, q6, q7, q8, q9] at hb13
        refine sw_skip ?_
        refine sw_seq ?_
        refine sO [(0, _), (1, _), (2, _), (8, _), (9, _), (10, _), (11, _), (12, _), (13, _)] [] ?_
        refine sw_reg ?_
        refine rA ?_ (x := vM false [PV.sl (.lo _) _])
        refine rA ?_ (x := cL [(false, [PV.sl (.lo _) _])] [(false, [PV.sl .v _])] FLawTopAlone_c_19 (hs := by exact to_RowS (by omega)))
        refine rA ?_ (x := sM)
        refine rA ?_ (x := sM)
        refine rA ?_ (x := cL [(false, [PV.sl _ _]), (false, [PV.val _]), (false, [PV.val _])] [(false, [PV.sl .v _]), (false, [PV.val _]), (false, [PV.val _])] FLawTopAlone_c_20 (hs := by exact (impl_TopAlone (by omega))))
        refine rA ?_ (x := tA)
        refine sw_seq ?_
        refine sw_seq ?_
        refine sO [(0, _), (1, _), (2, _), (8, _), (9, _), (10, _), (11, _), (12, _), (13, _), (14, _)] [] ?_
        refine sw_reg ?_
        refine rA ?_ (x := vM false [PV.sl .v _])
        refine rA ?_ (x := vM false [PV.sl (.lo _) _])
        refine rA ?_ (x := cL [(false, [PV.sl _ _]), (false, [PV.sl (.lo _) _])] [(false, [PV.sl .v _]), (false, [PV.sl .v _])] FLawTopAlone_c_21 (hs := by exact eq_RowS))
        refine rA ?_ (x := nT)
        refine sw_cond (t := 70) rfl (fun hb14 => ?_) (fun hb14 => ?_)
        ·try simp only [q1, q2, q3, q4, q5, q6, q7, q8, q9] at hb14
         first | exact absurd rfl hb14 | (simp [deq_self] at hb14; done) | omega
        ·try simp only [q1, q2, q3, q4, q5, q6, q7, q8, q9] at hb14
         refine sw_skip ?_
         refine sw_seq ?_
         refine sO [(0, _), (1, _), (2, _), (8, _), (9, _), (10, _), (11, _), (12, _), (13, _), (14, _)] [] ?_
         refine sw_reg ?_
         refine rA ?_ (x := kA)
         refine sw_seq ?_
         refine sO [(0, _), (1, _), (2, _), (8, _), (9, _), (10, _), (11, _), (12, _), (13, _), (14, _)] [] ?_
         refine sw_reg ?_
         refine rA ?_ (x := loc_copy (r' := RV.sv false [PV.sl .v _]) (.inl rfl) (by decide) (by exact Cp.sv (ToL.cons (PV.nv_to PV.to_none) ToL.nil) (BorL.cons (PV.bor_sl _) BorL.nil)))
         refine rA ?_ (x := sM)
         refine rA ?_ (x := cL [(false, [PV.sl _ _]), (false, [PV.val _])] [(false, [PV.sl .v _]), (false, [PV.val _])] FLawTopAlone_c_23 (hs := by exact held_RowS (by omega) (by omega)))
         refine rA ?_ (x := sA)
         refine sw_seq ?_
         refine sw_seq ?_
         refine sO [(0, _), (1, _), (2, _), (8, _), (9, _), (10, _), (11, _), (12, _), (13, _), (14, _)] [] ?_
         refine sw_reg ?_
         refine rA ?_ (x := sM)
         refine rA ?_ (x := B_lss)
         refine sw_cond (t := 75) rfl (fun hb15 => ?_) (fun hb15 => ?_)
         ·try simp only [q1, q2, q3, q4, q5, q6, q7, q8, q9] at hb15
          first | exact absurd rfl hb15 | (simp [deq_self] at hb15; done) | omega
         ·try simp only [q1, q2, q3, q4, q5, q6, q7, q8, q9] at hb15
          refine sw_skip ?_
          refine sw_seq ?_
          refine sw_seq ?_
          refine sO [(0, _), (1, _), (2, _), (8, _), (9, _), (10, _), (11, _), (12, _), (13, _), (14, _)] [] ?_
          refine sw_reg ?_
          refine rA ?_ (x := sM)
          refine rA ?_ (x := sM)
          refine rA ?_ (x := B_neq)
          refine sw_cond (t := 78) rfl (fun hb16 => ?_) (fun hb16 => ?_)
          ·try simp only [q1, q2, q3, q4, q5, q6, q7, q8, q9] at hb16
           first | exact absurd rfl hb16 | (simp [deq_self] at hb16; done) | omega
          ·try simp only [q1, q2, q3, q4, q5, q6, q7, q8, q9] at hb16
           refine sw_skip ?_
           refine sw_seq ?_
           refine sO [(0, _), (1, _), (2, _), (8, _), (9, _), (10, _), (11, _), (12, _), (13, _), (14, _)] [] ?_
           refine sw_reg ?_
           refine rA ?_ (x := kA)
           refine sw_ret ?_
           exact (And.intro (by exact rfl) True.intro)
end Go.Proofs.Ytloipjaiceifbaa
