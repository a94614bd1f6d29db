/- What functions of the program compute. No condition. -/
import Derived.Test.YtloipjaiceifbaaCToTopShared
import Derived.Test.YtloipjaiceifbaaCEqTopShared
import Derived.Test.YtloipjaiceifbaaCMkTopShared
import Derived.Test.YtloipjaiceifbaaCHeTopShared
import Derived.Test.YtloipjaiceifbaaCTopTopShared
import Derived.KernelRfl
set_option linter.unusedVariables false
set_option linter.unusedSimpArgs false
namespace Go.Proofs.Ytloipjaiceifbaa
open Go Go.RowKit M
set_option maxRecDepth 10000
attribute [local irreducible] PV.Lcl PV.LclR RV.Lcl
theorem FLawTopShared_c_10 : callI Try.prog 10 = true := by kernel_rfl
theorem FLawTopShared_c_12 : callI Try.prog 12 = true := by kernel_rfl
theorem FLawTopShared_c_14 : callI Try.prog 14 = true := by kernel_rfl
theorem FLawTopShared_c_15 : callI Try.prog 15 = true := by kernel_rfl
theorem FLawTopShared_c_24 : callI Try.prog 24 = true := by kernel_rfl
theorem FLawTopShared_c_25 : callI Try.prog 25 = true := by kernel_rfl
theorem FLawTopShared_c_26 : callI Try.prog 26 = true := by kernel_rfl
theorem FLawTopShared_c_27 : callI Try.prog 27 = true := by kernel_rfl
theorem FLawTopShared_c_28 : callI Try.prog 28 = true := by kernel_rfl
theorem FLawTopShared_c_29 : callI Try.prog 29 = true := by kernel_rfl
theorem FLawTopShared_c_30 : callI Try.prog 30 = true := by kernel_rfl
theorem FLawTopShared_c_31 : callI Try.prog 31 = true := by kernel_rfl
theorem FLawTopShared_sl_38 : sliceI Try.prog 38 = some (3, 1, 8) := by kernel_rfl
theorem FLawTopShared_ty_22 : tyI Try.prog 22 = some (false, 1) := by kernel_rfl
theorem FLawTopShared_ty_3 : tyI Try.prog 3 = some (false, 1) := by kernel_rfl
theorem FLawTopShared_ty_38 : tyI Try.prog 38 = some (false, 1) := by kernel_rfl
theorem law_TopShared {p1 p2 : Fl} {aL : List Annotated} {aIds : List Int} {aField : Int} {aK : Int}  : SCall Try.prog 5 [(false, [PV.sl .v (aL.map (cAnnotated p1 p2))]), (false, [PV.sl .v (aIds.map cInt)]), (false, [PV.val (vI aField)]), (false, [PV.val (vI aK)])] (resRV [(false, [PV.val (.bool true)])]) := by
 refine scall_lo (largs := fun L => [(false, [PV.sl (.lo L) (aL.map (cAnnotated (.lo L) (.lo L)))]), (false, [PV.sl (.lo L) (aIds.map cInt)]), (false, [PV.val (vI aField)]), (false, [PV.val (vI aK)])]) (rs := [(false, [PV.val (.bool true)])]) Try.func5 rfl (Nat.le_of_ble_eq_true rfl) (fun L => by exact (And.intro (And.intro rfl (ToBL.cons (PV.tob_map (fun _ => Nat.le_of_ble_eq_true rfl) (fun _ => (ToBL.cons PV.tob_refl (ToBL.cons (PV.tob_map (fun _ => Nat.le_of_ble_eq_true rfl) (fun _ => (ToBL.cons PV.tob_refl ToBL.nil))) (ToBL.cons (PV.tob_map (fun _ => Nat.le_of_ble_eq_true rfl) (fun _ => (ToBL.cons PV.tob_refl ToBL.nil))) ToBL.nil))))) ToBL.nil)) (And.intro (And.intro rfl (ToBL.cons (PV.tob_map (fun _ => Nat.le_of_ble_eq_true rfl) (fun _ => (ToBL.cons PV.tob_refl ToBL.nil))) ToBL.nil)) (And.intro (And.intro rfl (ToBL.cons PV.tob_refl ToBL.nil)) (And.intro (And.intro rfl (ToBL.cons PV.tob_refl ToBL.nil)) True.intro))))) (fun L => by exact (borA_cons (BorL.cons (PV.bor_lo _ _) BorL.nil) (borA_cons (BorL.cons (PV.bor_lo _ _) BorL.nil) (borA_cons (BorL.cons (PV.bor_val _) BorL.nil) (borA_cons (BorL.cons (PV.bor_val _) BorL.nil) borA_nil))))) ?_
 intro w0 Fz0
 refine sw_len (s := 0) rfl fun hl0 => ?_
 try rw [List.length_map] at hl0
 refine sw_len (s := 1) rfl fun hl1 => ?_
 try rw [List.length_map] at hl1
 refine sw_seq ?_
 refine sw_reg ?_
 refine rA ?_ (x := kA)
 refine sw_seq ?_
 refine sw_seq ?_
 refine sO [(0, _), (1, _), (2, _), (3, _), (8, _)] [] ?_
 refine sw_reg ?_
 refine rA ?_ (x := vM false [PV.sl (.lo _) _])
 refine rA ?_ (x := lN FLawTopShared_sl_38)
 refine rA ?_ (x := B_gtr)
 refine sw_cond (t := 23) rfl (fun hb1 => ?_) (fun hb1 => ?_)
 ·try simp only [q1, q2, q3, q4, q5, q6, q7, q8, q9] at hb1
  refine sw_seq ?_
  refine sO [(0, _), (1, _), (2, _), (3, _), (8, _)] [] ?_
  refine sw_reg ?_
  refine rA ?_ (x := kA)
  refine sw_ret ?_
  exact (And.intro (by exact rfl) True.intro)
 ·try simp only [q1, q2, q3, q4, q5, q6, q7, q8, q9] at hb1
  have hpl0 := hb1
  have hwl0 := wtIntS_len aIds
  refine sw_skip ?_
  refine sw_seq ?_
  refine sO [(0, _), (1, _), (2, _), (3, _), (8, _)] [] ?_
  refine sw_reg ?_
  refine rA ?_ (x := kA)
  refine sw_seq ?_
  refine sO [(0, _), (1, _), (2, _), (3, _), (8, _), (9, _)] [] ?_
  refine sw_reg ?_
  refine rA ?_ (x := vM false [PV.sl (.lo _) _])
  refine rA ?_ (x := sM)
  refine rA ?_ (x := cL [(false, [PV.sl (.lo _) _]), (false, [PV.val _])] [(false, [PV.sl .v _]), (false, [PV.val _])] FLawTopShared_c_10 (hs := by exact sz_AnnotatedS (by omega) (by omega)))
  refine rA ?_ (x := sA)
  refine sw_seq ?_
  refine sw_seq ?_
  refine sO [(0, _), (1, _), (2, _), (3, _), (8, _), (9, _)] [] ?_
  refine sw_reg ?_
  refine rA ?_ (x := sM)
  refine rA ?_ (x := B_lss)
  refine sw_cond (t := 28) rfl (fun hb2 => ?_) (fun hb2 => ?_)
  ·try simp only [q1, q2, q3, q4, q5, q6, q7, q8, q9] at hb2
   refine sw_seq ?_
   refine sO [(0, _), (1, _), (2, _), (3, _), (8, _), (9, _)] [] ?_
   refine sw_reg ?_
   refine rA ?_ (x := kA)
   refine sw_ret ?_
   exact (And.intro (by exact rfl) True.intro)
  ·try simp only [q1, q2, q3, q4, q5, q6, q7, q8, q9] at hb2
   have hp1 := szR_pos (w := wtAnnotatedS aL) (l := 1048576) hb2
   have he1 := szR_yes hp1
   have hw0 := topShared_wt aL aIds aField aK
   refine sw_skip ?_
   refine sw_seq ?_
   refine sO [(0, _), (1, _), (2, _), (3, _), (8, _), (9, _)] [] ?_
   refine sw_reg ?_
   refine rA ?_ (x := vM false [PV.sl (.lo _) _])
   refine rA ?_ (x := cL [(false, [PV.sl (.lo _) _])] [(false, [PV.sl .v _])] FLawTopShared_c_12 (hs := by exact to_AnnotatedS (by omega)))
   refine rA ?_ (x := vM false [PV.sl (.lo _) _])
   refine rA ?_ (x := cL [(false, [PV.sl (.lo _) _])] [(false, [PV.sl .v _])] FLawTopShared_c_25 (hs := by exact to_IntS (by omega)))
   refine rA ?_ (x := sM)
   refine rA ?_ (x := sM)
   refine rA ?_ (x := cL [(false, [PV.sl _ _]), (false, [PV.sl _ _]), (false, [PV.val _]), (false, [PV.val _])] [(false, [PV.sl .v _]), (false, [PV.sl .v _]), (false, [PV.val _]), (false, [PV.val _])] FLawTopShared_c_24 (hs := by exact (spec_TopShared (by omega) (by omega))))
   refine rA ?_ (x := tM)
   refine rA ?_ (x := loc_extract (cs := [PV.sl _ _]) (qs := [PV.sl .v _]) (by decide) (by exact rfl) (by exact (ToL.cons PV.to_none ToL.nil)) (by exact (BorL.cons (PV.bor_sl _) BorL.nil)))
   refine rA ?_ (x := loc_extractb (cs := [PV.val _]) (by decide) (by exact rfl) (by exact (BorL.cons (PV.bor_val _) BorL.nil)))
   refine rA ?_ (x := tA)
   refine rA ?_ (x := sA)
   refine sw_seq ?_
   refine sO [(0, _), (1, _), (2, _), (3, _), (8, _), (9, _), (10, _), (11, _)] [] ?_
   refine sw_reg ?_
   refine rA ?_ (x := vM false [PV.sl (.lo _) _])
   refine rA ?_ (x := cL [(false, [PV.sl (.lo _) _])] [(false, [PV.sl .v _])] FLawTopShared_c_12 (hs := by exact to_AnnotatedS (by omega)))
   refine rA ?_ (x := tA)
   refine sw_seq ?_
   refine sO [(0, _), (1, _), (2, _), (3, _), (8, _), (9, _), (10, _), (11, _), (12, _)] [] ?_
   refine sw_reg ?_
   refine rA ?_ (x := vM false [PV.sl (.lo _) _])
   refine rA ?_ (x := cL [(false, [PV.sl (.lo _) _])] [(false, [PV.sl .v _])] FLawTopShared_c_25 (hs := by exact to_IntS (by omega)))
   refine rA ?_ (x := tA)
   refine sw_seq ?_
   refine sO [(0, _), (1, _), (2, _), (3, _), (8, _), (9, _), (10, _), (11, _), (12, _), (13, _)] [] ?_
   refine sw_reg ?_
   refine rA ?_ (x := vM false [PV.sl .v _])
   refine rA ?_ (x := vM false [PV.sl .v _])
   refine rA ?_ (x := sM)
   refine rA ?_ (x := sM)
   refine rA ?_ (x := cL [(false, [PV.sl _ _]), (false, [PV.sl _ _]), (false, [PV.val _]), (false, [PV.val _])] [(false, [PV.sl .v _]), (false, [PV.sl .v _]), (false, [PV.val _]), (false, [PV.val _])] FLawTopShared_c_26 (hs := by exact (impl_TopShared (by omega) (by omega))))
   refine rA ?_ (x := tM)
   refine rA ?_ (x := loc_extract (cs := [PV.sl _ _]) (qs := [PV.sl .v _]) (by decide) (by exact rfl) (by exact (ToL.cons PV.to_none ToL.nil)) (by exact (BorL.cons (PV.bor_sl _) BorL.nil)))
   refine rA ?_ (x := loc_extractb (cs := [PV.val _]) (by decide) (by exact rfl) (by exact (BorL.cons (PV.bor_val _) BorL.nil)))
   refine rA ?_ (x := tA)
   refine rA ?_ (x := sA)
   refine sw_seq ?_
   refine sw_seq ?_
   refine sO [(0, _), (1, _), (2, _), (3, _), (8, _), (9, _), (10, _), (11, _), (12, _), (13, _), (14, _), (15, _)] [] ?_
   refine sw_reg ?_
   refine rA ?_ (x := vM false [PV.sl .v _])
   refine rA ?_ (x := vM false [PV.sl .v _])
   refine rA ?_ (x := cL [(false, [PV.sl _ _]), (false, [PV.sl _ _])] [(false, [PV.sl .v _]), (false, [PV.sl .v _])] FLawTopShared_c_27 (hs := by exact eq_RoutedS))
   refine rA ?_ (x := nT)
   refine rA ?_ (x := sM)
   refine RunS.cases (s := 55) rfl (fun g3 => ?_) (fun g3 => ?_)
   ·first | (simp [deq_self] at g3; done) | (simp only [decide_eq_true_eq] at g3; omega)
   ·have sg3 := g3
    try simp only [q1, q2, q3, q4, q5, q6, q7, q8, q9] at sg3
    refine rB g3 ?_ (x := sM)
    refine rB g3 ?_ (x := sM)
    refine rB g3 ?_ (x := B_neq)
    refine rA ?_ (x := pkF g3)
    refine sw_cond (t := 59) rfl (fun hb4 => ?_) (fun hb4 => ?_)
    ·try simp only [q1, q2, q3, q4, q5, q6, q7, q8, q9] at hb4
     first | exact absurd rfl hb4 | (simp [deq_self] at hb4; done) | omega
    ·try simp only [q1, q2, q3, q4, q5, q6, q7, q8, q9] at hb4
     refine sw_skip ?_
     refine sw_seq ?_
     refine sw_seq ?_
     refine sO [(0, _), (1, _), (2, _), (3, _), (8, _), (9, _), (10, _), (11, _), (12, _), (13, _), (14, _), (15, _)] [] ?_
     refine sw_reg ?_
     refine rA ?_ (x := vM false [PV.sl .v _])
     refine rA ?_ (x := vM false [PV.sl (.lo _) _])
     refine rA ?_ (x := cL [(false, [PV.sl (.lo _) _])] [(false, [PV.sl .v _])] FLawTopShared_c_12 (hs := by exact to_AnnotatedS (by omega)))
     refine rA ?_ (x := cL [(false, [PV.sl _ _]), (false, [PV.sl _ _])] [(false, [PV.sl .v _]), (false, [PV.sl .v _])] FLawTopShared_c_14 (hs := by exact eq_AnnotatedS))
     refine rA ?_ (x := nT)
     refine sw_cond (t := 64) rfl (fun hb5 => ?_) (fun hb5 => ?_)
     ·try simp only [q1, q2, q3, q4, q5, q6, q7, q8, q9] at hb5
      first | exact absurd rfl hb5 | (simp [deq_self] at hb5; done) | omega
     ·try simp only [q1, q2, q3, q4, q5, q6, q7, q8, q9] at hb5
      refine sw_skip ?_
      refine sw_seq ?_
      refine sw_seq ?_
      refine sO [(0, _), (1, _), (2, _), (3, _), (8, _), (9, _), (10, _), (11, _), (12, _), (13, _), (14, _), (15, _)] [] ?_
      refine sw_reg ?_
      refine rA ?_ (x := vM false [PV.sl .v _])
      refine rA ?_ (x := vM false [PV.sl (.lo _) _])
      refine rA ?_ (x := cL [(false, [PV.sl (.lo _) _])] [(false, [PV.sl .v _])] FLawTopShared_c_25 (hs := by exact to_IntS (by omega)))
      refine rA ?_ (x := cL [(false, [PV.sl _ _]), (false, [PV.sl _ _])] [(false, [PV.sl .v _]), (false, [PV.sl .v _])] FLawTopShared_c_28 (hs := by exact eq_IntS))
      refine rA ?_ (x := nT)
      refine sw_cond (t := 69) rfl (fun hb6 => ?_) (fun hb6 => ?_)
      ·try simp only [q1, q2, q3, q4, q5, q6, q7, q8, q9] at hb6
       first | exact absurd rfl hb6 | (simp [deq_self] at hb6; done) | omega
      ·try simp only [q1, q2, q3, q4, q5, q6, q7, q8, q9] at hb6
       refine sw_skip ?_
       refine sw_seq ?_
       refine sO [(0, _), (1, _), (2, _), (3, _), (8, _), (9, _), (10, _), (11, _), (12, _), (13, _), (14, _), (15, _)] [] ?_
       refine sw_reg ?_
       refine rA ?_ (x := kA)
       refine sw_seq ?_
       refine sO [(0, _), (1, _), (2, _), (3, _), (8, _), (9, _), (10, _), (11, _), (12, _), (13, _), (14, _), (15, _), (16, _)] [] ?_
       refine sw_nmS (s := 12) (by exact rfl) fun us hus => ?_
       obtain ⟨u7_0, rfl⟩ := us_1 hus
       have hq8 := mkL_le mkE_Annotated_le aL 1
       have hq9 := ctL_AnnotatedS aL 1
       refine sO [(0, _), (1, _), (2, _), (3, _), (8, _), (9, _), (10, _), (11, _), (12, _), (13, _), (14, _), (15, _), (16, _)] [] ?_
       refine sw_regL ?_
       refine swl_step (by exact ⟨rfl, ⟨⟩⟩) (by exact ⟨⟩) (LocG.of rfl (loc_copy (r' := RV.sv false [PV.val _]) (.inl rfl) (by decide) (by exact Cp.sv (ToL.cons PV.nv_val ToL.nil) (BorL.cons (PV.bor_val _) BorL.nil)))) nofree ?_
       refine swl_step (by exact ⟨rfl, ⟨⟩⟩) (by exact ⟨⟩) (LocG.of rfl (loc_copy (.inl rfl) (by decide) (by exact Cp.sc))) nofree ?_
       refine swl_of (l := [(0, RV.sv false [PV.sl (.lo _) _]), (1, RV.sv false [PV.sl (.lo _) _]), (2, RV.sv false [PV.val _]), (3, RV.sv false [PV.val _]), (8, RV.sv false [PV.val _]), (9, RV.sv false [PV.val _]), (10, RV.sv false [PV.sl _ _]), (11, RV.sv false [PV.val _]), (12, RV.sv false [PV.nv _ (PV.sl _ _)]), (13, RV.sv false [PV.sl _ _]), (14, RV.sv false [PV.sl _ _]), (15, RV.sv false [PV.val _]), (16, RV.sv false [PV.val _]), (70, RV.sv false [PV.val _]), (71, RV.sv false [PV.val _])]) (b := []) (by exact ⟨rfl, rfl, rfl, rfl, rfl, rfl, rfl, rfl, rfl, rfl, rfl, rfl, rfl, rfl, rfl, ⟨⟩⟩) (by exact ⟨⟩) ?_
       refine swl_ucallS (s := 12) (L := (Lw w0.heap.size)) (qr := [(false, [PV.val _])]) (as_ := [(false, [PV.val _])]) (by decide) FLawTopShared_c_15 rfl (by exact rfl) (by exact (Nm.val Nm.nil)) (by exact ⟨rfl, ⟨⟩⟩) (by exact (And.intro (by exact ⟨⟩) True.intro)) (by exact And.intro (And.intro rfl (ToL.cons (PV.To.refl _) ToL.nil)) True.intro) (by exact rfl) (by exact (Nm.nv Nm.nil)) (by exact (OwnTo.nv OwnTo.nil)) (by exact mark_AnnotatedS (x := aL) (by omega) (by omega)) (by exact (OwnFrom.nv OwnFrom.nil)) (fun x hx => hx) (by exact (And.intro (.inr (RV.lcl_sv (LclC.cons (PV.lcl_lo (LclRC.map fun x => (LclRC.cons PV.lclr_val (LclRC.cons (PV.lclr_lo (LclRC.map fun x => (LclRC.cons PV.lclr_val LclRC.nil))) (LclRC.cons (PV.lclr_lo (LclRC.map fun x => (LclRC.cons PV.lclr_val LclRC.nil))) LclRC.nil))))) LclC.nil))) (And.intro (.inr (RV.lcl_sv (LclC.cons (PV.lcl_lo (LclRC.map fun x => (LclRC.cons PV.lclr_val LclRC.nil))) LclC.nil))) (And.intro (.inr (RV.lcl_sv (LclC.cons PV.lcl_val LclC.nil))) (And.intro (.inr (RV.lcl_sv (LclC.cons PV.lcl_val LclC.nil))) (And.intro (.inr (RV.lcl_sv (LclC.cons PV.lcl_val LclC.nil))) (And.intro (.inr (RV.lcl_sv (LclC.cons PV.lcl_val LclC.nil))) (And.intro (.inr (RV.lcl_sv (LclC.cons (PV.lcl_own (LclC.map fun x => (LclC.cons PV.lcl_val (LclC.cons (PV.lcl_own (LclC.map fun x => (LclC.cons PV.lcl_val (LclC.cons (PV.lcl_own (LclC.map fun x => (LclC.cons PV.lcl_val LclC.nil))) LclC.nil)))) LclC.nil)))) LclC.nil))) (And.intro (.inr (RV.lcl_sv (LclC.cons PV.lcl_val LclC.nil))) (And.intro (.inl rfl) (And.intro (.inr (RV.lcl_sv (LclC.cons (PV.lcl_own (LclC.map fun x => (LclC.cons PV.lcl_val LclC.nil))) LclC.nil))) (And.intro (.inr (RV.lcl_sv (LclC.cons (PV.lcl_own (LclC.map fun x => (LclC.cons PV.lcl_val (LclC.cons (PV.lcl_own (LclC.map fun x => (LclC.cons PV.lcl_val (LclC.cons (PV.lcl_own (LclC.map fun x => (LclC.cons PV.lcl_val LclC.nil))) LclC.nil)))) LclC.nil)))) LclC.nil))) (And.intro (.inr (RV.lcl_sv (LclC.cons PV.lcl_val LclC.nil))) (And.intro (.inr (RV.lcl_sv (LclC.cons PV.lcl_val LclC.nil))) (And.intro (.inr (RV.lcl_sv (LclC.cons PV.lcl_val LclC.nil))) (And.intro (.inr (RV.lcl_sv (LclC.cons PV.lcl_val LclC.nil))) True.intro)))))))))))))))) (by exact ⟨⟩) rfl (by decide) ?_
       refine swl_step (by exact ⟨rfl, ⟨⟩⟩) (by exact ⟨⟩) (LocG.of rfl (loc_copy (.inr rfl) (by decide) (by exact Cp.sc))) nofree ?_
       refine swl_nil ?_
       refine sw_seq ?_
       refine sO [(0, _), (1, _), (2, _), (3, _), (8, _), (9, _), (10, _), (11, _), (12, _), (13, _), (14, _), (15, _), (16, _)] [] ?_
       refine sw_nmS (s := 13) (by exact rfl) fun us hus => ?_
       obtain ⟨u10_0, rfl⟩ := us_1 hus
       have hq11 := mkL_le mkE_Int_le aIds (mkL mkE_Annotated aL 1).2
       have hq12 := ctL_IntS aIds (mkL mkE_Annotated aL 1).2
       refine sO [(0, _), (1, _), (2, _), (3, _), (8, _), (9, _), (10, _), (11, _), (12, _), (13, _), (14, _), (15, _), (16, _)] [] ?_
       refine sw_regL ?_
       refine swl_step (by exact ⟨rfl, ⟨⟩⟩) (by exact ⟨⟩) (LocG.of rfl (loc_copy (r' := RV.sv false [PV.val _]) (.inl rfl) (by decide) (by exact Cp.sv (ToL.cons PV.nv_val ToL.nil) (BorL.cons (PV.bor_val _) BorL.nil)))) nofree ?_
       refine swl_step (by exact ⟨rfl, ⟨⟩⟩) (by exact ⟨⟩) (LocG.of rfl (loc_copy (.inl rfl) (by decide) (by exact Cp.sc))) nofree ?_
       refine swl_of (l := [(0, RV.sv false [PV.sl (.lo _) _]), (1, RV.sv false [PV.sl (.lo _) _]), (2, RV.sv false [PV.val _]), (3, RV.sv false [PV.val _]), (8, RV.sv false [PV.val _]), (9, RV.sv false [PV.val _]), (10, RV.sv false [PV.sl _ _]), (11, RV.sv false [PV.val _]), (12, RV.sv false [PV.nv _ (PV.sl _ _)]), (13, RV.sv false [PV.nv _ (PV.sl _ _)]), (14, RV.sv false [PV.sl _ _]), (15, RV.sv false [PV.val _]), (16, RV.sv false [PV.val _]), (73, RV.sv false [PV.val _]), (74, RV.sv false [PV.val _])]) (b := []) (by exact ⟨rfl, rfl, rfl, rfl, rfl, rfl, rfl, rfl, rfl, rfl, rfl, rfl, rfl, rfl, rfl, ⟨⟩⟩) (by exact ⟨⟩) ?_
       refine swl_ucallS (s := 13) (L := (Lw w0.heap.size)) (qr := [(false, [PV.val _])]) (as_ := [(false, [PV.val _])]) (by decide) FLawTopShared_c_29 rfl (by exact rfl) (by exact (Nm.val Nm.nil)) (by exact ⟨rfl, ⟨⟩⟩) (by exact (And.intro (by exact ⟨⟩) True.intro)) (by exact And.intro (And.intro rfl (ToL.cons (PV.To.refl _) ToL.nil)) True.intro) (by exact rfl) (by exact (Nm.nv Nm.nil)) (by exact (OwnTo.nv OwnTo.nil)) (by exact mark_IntS (x := aIds) (by omega) (by omega)) (by exact (OwnFrom.nv OwnFrom.nil)) (fun x hx => hx) (by exact (And.intro (.inr (RV.lcl_sv (LclC.cons (PV.lcl_lo (LclRC.map fun x => (LclRC.cons PV.lclr_val (LclRC.cons (PV.lclr_lo (LclRC.map fun x => (LclRC.cons PV.lclr_val LclRC.nil))) (LclRC.cons (PV.lclr_lo (LclRC.map fun x => (LclRC.cons PV.lclr_val LclRC.nil))) LclRC.nil))))) LclC.nil))) (And.intro (.inr (RV.lcl_sv (LclC.cons (PV.lcl_lo (LclRC.map fun x => (LclRC.cons PV.lclr_val LclRC.nil))) LclC.nil))) (And.intro (.inr (RV.lcl_sv (LclC.cons PV.lcl_val LclC.nil))) (And.intro (.inr (RV.lcl_sv (LclC.cons PV.lcl_val LclC.nil))) (And.intro (.inr (RV.lcl_sv (LclC.cons PV.lcl_val LclC.nil))) (And.intro (.inr (RV.lcl_sv (LclC.cons PV.lcl_val LclC.nil))) (And.intro (.inr (RV.lcl_sv (LclC.cons (PV.lcl_own (LclC.map fun x => (LclC.cons PV.lcl_val (LclC.cons (PV.lcl_own (LclC.map fun x => (LclC.cons PV.lcl_val (LclC.cons (PV.lcl_own (LclC.map fun x => (LclC.cons PV.lcl_val LclC.nil))) LclC.nil)))) LclC.nil)))) LclC.nil))) (And.intro (.inr (RV.lcl_sv (LclC.cons PV.lcl_val LclC.nil))) (And.intro (.inr (RV.lcl_sv (LclC.cons (PV.lcl_nv (PV.lcl_own (LclC.map fun x => (LclC.cons PV.lcl_val (LclC.cons (PV.lcl_own (LclC.map fun x => (LclC.cons PV.lcl_val LclC.nil))) (LclC.cons (PV.lcl_own (LclC.map fun x => (LclC.cons PV.lcl_val LclC.nil))) LclC.nil)))))) LclC.nil))) (And.intro (.inl rfl) (And.intro (.inr (RV.lcl_sv (LclC.cons (PV.lcl_own (LclC.map fun x => (LclC.cons PV.lcl_val (LclC.cons (PV.lcl_own (LclC.map fun x => (LclC.cons PV.lcl_val (LclC.cons (PV.lcl_own (LclC.map fun x => (LclC.cons PV.lcl_val LclC.nil))) LclC.nil)))) LclC.nil)))) LclC.nil))) (And.intro (.inr (RV.lcl_sv (LclC.cons PV.lcl_val LclC.nil))) (And.intro (.inr (RV.lcl_sv (LclC.cons PV.lcl_val LclC.nil))) (And.intro (.inr (RV.lcl_sv (LclC.cons PV.lcl_val LclC.nil))) (And.intro (.inr (RV.lcl_sv (LclC.cons PV.lcl_val LclC.nil))) True.intro)))))))))))))))) (by exact ⟨⟩) rfl (by decide) ?_
       refine swl_step (by exact ⟨rfl, ⟨⟩⟩) (by exact ⟨⟩) (LocG.of rfl (loc_copy (.inr rfl) (by decide) (by exact Cp.sc))) nofree ?_
       refine swl_nil ?_
       refine sw_seq ?_
       refine sw_seq ?_
       refine sO [(0, _), (1, _), (2, _), (3, _), (8, _), (9, _), (10, _), (11, _), (12, _), (13, _), (14, _), (15, _), (16, _)] [] ?_
       refine sw_reg ?_
       refine rA ?_ (x := sM)
       refine rA ?_ (x := B_lss)
       refine rA ?_ (x := sM)
       refine RunS.cases (s := 78) rfl (fun g13 => ?_) (fun g13 => ?_)
       ·first | (simp [deq_self] at g13; done) | (simp only [decide_eq_true_eq] at g13; omega)
       ·have sg13 := g13
        try simp only [q1, q2, q3, q4, q5, q6, q7, q8, q9] at sg13
        refine rB g13 ?_ (x := vM false [PV.sl .v _])
        refine rB g13 ?_ (x := vM false [PV.sl .v _])
        refine rB g13 ?_ (x := cL [(false, [PV.sl _ _]), (false, [PV.sl _ _])] [(false, [PV.sl .v _]), (false, [PV.sl .v _])] FLawTopShared_c_27 (hs := by exact eq_RoutedS))
        refine rB g13 ?_ (x := nT)
        refine rA ?_ (x := pkF g13)
        refine rA ?_ (x := sM)
        refine RunS.cases (s := 84) rfl (fun g14 => ?_) (fun g14 => ?_)
        ·first | (simp [deq_self] at g14; done) | (simp only [decide_eq_true_eq] at g14; omega)
        ·have sg14 := g14
         try simp only [q1, q2, q3, q4, q5, q6, q7, q8, q9] at sg14
         refine rB g14 ?_ (x := sM)
         refine rB g14 ?_ (x := sM)
         refine rB g14 ?_ (x := B_neq)
         refine rA ?_ (x := pkF g14)
         refine sw_cond (t := 88) rfl (fun hb15 => ?_) (fun hb15 => ?_)
         ·try simp only [q1, q2, q3, q4, q5, q6, q7, q8, q9] at hb15
          first | exact absurd rfl hb15 | (simp [deq_self] at hb15; done) | omega
         ·try simp only [q1, q2, q3, q4, q5, q6, q7, q8, q9] at hb15
          refine sw_skip ?_
          refine sw_seq ?_
          refine sO [(0, _), (1, _), (2, _), (3, _), (8, _), (9, _), (10, _), (11, _), (12, _), (13, _), (14, _), (15, _), (16, _)] [] ?_
          refine sw_reg ?_
          refine rA ?_ (x := kA)
          refine sw_seq ?_
          refine sO [(0, _), (1, _), (2, _), (3, _), (8, _), (9, _), (10, _), (11, _), (12, _), (13, _), (14, _), (15, _), (16, _), (17, _)] [] ?_
          refine sw_nmS (s := 14) (by exact rfl) fun us hus => ?_
          obtain ⟨u16_0, rfl⟩ := us_1 hus
          have hq17 := mkL_le mkE_Routed_le (topShared aL aIds aField aK).1 1
          have hq18 := ctL_RoutedS (topShared aL aIds aField aK).1 1
          refine sO [(0, _), (1, _), (2, _), (3, _), (8, _), (9, _), (10, _), (11, _), (12, _), (13, _), (14, _), (15, _), (16, _), (17, _)] [] ?_
          refine sw_regL ?_
          refine swl_step (by exact ⟨rfl, ⟨⟩⟩) (by exact ⟨⟩) (LocG.of rfl (loc_copy (r' := RV.sv false [PV.val _]) (.inl rfl) (by decide) (by exact Cp.sv (ToL.cons PV.nv_val ToL.nil) (BorL.cons (PV.bor_val _) BorL.nil)))) nofree ?_
          refine swl_step (by exact ⟨rfl, ⟨⟩⟩) (by exact ⟨⟩) (LocG.of rfl (loc_copy (.inl rfl) (by decide) (by exact Cp.sc))) nofree ?_
          refine swl_of (l := [(0, RV.sv false [PV.sl (.lo _) _]), (1, RV.sv false [PV.sl (.lo _) _]), (2, RV.sv false [PV.val _]), (3, RV.sv false [PV.val _]), (8, RV.sv false [PV.val _]), (9, RV.sv false [PV.val _]), (10, RV.sv false [PV.sl _ _]), (11, RV.sv false [PV.val _]), (12, RV.sv false [PV.nv _ (PV.sl _ _)]), (13, RV.sv false [PV.nv _ (PV.sl _ _)]), (14, RV.sv false [PV.nv _ (PV.sl _ _)]), (15, RV.sv false [PV.val _]), (16, RV.sv false [PV.val _]), (17, RV.sv false [PV.val _]), (89, RV.sv false [PV.val _]), (90, RV.sv false [PV.val _])]) (b := []) (by exact ⟨rfl, rfl, rfl, rfl, rfl, rfl, rfl, rfl, rfl, rfl, rfl, rfl, rfl, rfl, rfl, rfl, ⟨⟩⟩) (by exact ⟨⟩) ?_
          refine swl_ucallS (s := 14) (L := (Lw w0.heap.size)) (qr := [(false, [PV.val _])]) (as_ := [(false, [PV.val _])]) (by decide) FLawTopShared_c_30 rfl (by exact rfl) (by exact (Nm.val Nm.nil)) (by exact ⟨rfl, ⟨⟩⟩) (by exact (And.intro (by exact ⟨⟩) True.intro)) (by exact And.intro (And.intro rfl (ToL.cons (PV.To.refl _) ToL.nil)) True.intro) (by exact rfl) (by exact (Nm.nv Nm.nil)) (by exact (OwnTo.nv OwnTo.nil)) (by exact mark_RoutedS (x := (topShared aL aIds aField aK).1) (by omega) (by omega)) (by exact (OwnFrom.nv OwnFrom.nil)) (fun x hx => hx) (by exact (And.intro (.inr (RV.lcl_sv (LclC.cons (PV.lcl_lo (LclRC.map fun x => (LclRC.cons PV.lclr_val (LclRC.cons (PV.lclr_lo (LclRC.map fun x => (LclRC.cons PV.lclr_val LclRC.nil))) (LclRC.cons (PV.lclr_lo (LclRC.map fun x => (LclRC.cons PV.lclr_val LclRC.nil))) LclRC.nil))))) LclC.nil))) (And.intro (.inr (RV.lcl_sv (LclC.cons (PV.lcl_lo (LclRC.map fun x => (LclRC.cons PV.lclr_val LclRC.nil))) LclC.nil))) (And.intro (.inr (RV.lcl_sv (LclC.cons PV.lcl_val LclC.nil))) (And.intro (.inr (RV.lcl_sv (LclC.cons PV.lcl_val LclC.nil))) (And.intro (.inr (RV.lcl_sv (LclC.cons PV.lcl_val LclC.nil))) (And.intro (.inr (RV.lcl_sv (LclC.cons PV.lcl_val LclC.nil))) (And.intro (.inr (RV.lcl_sv (LclC.cons (PV.lcl_own (LclC.map fun x => (LclC.cons PV.lcl_val (LclC.cons (PV.lcl_own (LclC.map fun x => (LclC.cons PV.lcl_val (LclC.cons (PV.lcl_own (LclC.map fun x => (LclC.cons PV.lcl_val LclC.nil))) LclC.nil)))) LclC.nil)))) LclC.nil))) (And.intro (.inr (RV.lcl_sv (LclC.cons PV.lcl_val LclC.nil))) (And.intro (.inr (RV.lcl_sv (LclC.cons (PV.lcl_nv (PV.lcl_own (LclC.map fun x => (LclC.cons PV.lcl_val (LclC.cons (PV.lcl_own (LclC.map fun x => (LclC.cons PV.lcl_val LclC.nil))) (LclC.cons (PV.lcl_own (LclC.map fun x => (LclC.cons PV.lcl_val LclC.nil))) LclC.nil)))))) LclC.nil))) (And.intro (.inr (RV.lcl_sv (LclC.cons (PV.lcl_nv (PV.lcl_own (LclC.map fun x => (LclC.cons PV.lcl_val LclC.nil)))) LclC.nil))) (And.intro (.inl rfl) (And.intro (.inr (RV.lcl_sv (LclC.cons PV.lcl_val LclC.nil))) (And.intro (.inr (RV.lcl_sv (LclC.cons PV.lcl_val LclC.nil))) (And.intro (.inr (RV.lcl_sv (LclC.cons PV.lcl_val LclC.nil))) (And.intro (.inr (RV.lcl_sv (LclC.cons PV.lcl_val LclC.nil))) (And.intro (.inr (RV.lcl_sv (LclC.cons PV.lcl_val LclC.nil))) True.intro))))))))))))))))) (by exact ⟨⟩) rfl (by decide) ?_
          refine swl_step (by exact ⟨rfl, ⟨⟩⟩) (by exact ⟨⟩) (LocG.of rfl (loc_copy (.inr rfl) (by decide) (by exact Cp.sc))) nofree ?_
          refine swl_nil ?_
          refine sw_seq ?_
          refine sO [(0, _), (1, _), (2, _), (3, _), (8, _), (9, _), (10, _), (11, _), (12, _), (13, _), (14, _), (15, _), (16, _), (17, _)] [] ?_
          refine sw_reg ?_
          refine rA ?_ (x := kA)
          refine sw_seq ?_
          refine sO [(0, _), (1, _), (2, _), (3, _), (8, _), (9, _), (10, _), (11, _), (12, _), (13, _), (14, _), (15, _), (16, _), (17, _), (18, _)] [] ?_
          refine sw_reg ?_
          refine rA ?_ (x := loc_copy (r' := RV.sv false [PV.sl .v _]) (.inl rfl) (by decide) (by exact Cp.sv (ToL.cons (PV.nv_to PV.to_none) ToL.nil) (BorL.cons (PV.bor_sl _) BorL.nil)))
          refine rA ?_ (x := sM)
          refine rA ?_ (x := cL [(false, [PV.sl _ _]), (false, [PV.val _])] [(false, [PV.sl .v _]), (false, [PV.val _])] FLawTopShared_c_31 (hs := by exact held_RoutedS (by omega) (by omega)))
          refine rA ?_ (x := sA)
          refine sw_seq ?_
          refine sw_seq ?_
          refine sO [(0, _), (1, _), (2, _), (3, _), (8, _), (9, _), (10, _), (11, _), (12, _), (13, _), (14, _), (15, _), (16, _), (17, _), (18, _)] [] ?_
          refine sw_reg ?_
          refine rA ?_ (x := sM)
          refine rA ?_ (x := B_lss)
          refine sw_cond (t := 96) rfl (fun hb19 => ?_) (fun hb19 => ?_)
          ·try simp only [q1, q2, q3, q4, q5, q6, q7, q8, q9] at hb19
           first | exact absurd rfl hb19 | (simp [deq_self] at hb19; done) | omega
          ·try simp only [q1, q2, q3, q4, q5, q6, q7, q8, q9] at hb19
           refine sw_skip ?_
           refine sw_seq ?_
           refine sw_seq ?_
           refine sO [(0, _), (1, _), (2, _), (3, _), (8, _), (9, _), (10, _), (11, _), (12, _), (13, _), (14, _), (15, _), (16, _), (17, _), (18, _)] [] ?_
           refine sw_reg ?_
           refine rA ?_ (x := sM)
           refine rA ?_ (x := sM)
           refine rA ?_ (x := B_neq)
           refine sw_cond (t := 99) rfl (fun hb20 => ?_) (fun hb20 => ?_)
           ·try simp only [q1, q2, q3, q4, q5, q6, q7, q8, q9] at hb20
            first | exact absurd rfl hb20 | (simp [deq_self] at hb20; done) | omega
           ·try simp only [q1, q2, q3, q4, q5, q6, q7, q8, q9] at hb20
            refine sw_skip ?_
            refine sw_seq ?_
            refine sO [(0, _), (1, _), (2, _), (3, _), (8, _), (9, _), (10, _), (11, _), (12, _), (13, _), (14, _), (15, _), (16, _), (17, _), (18, _)] [] ?_
            refine sw_reg ?_
            refine rA ?_ (x := vM false [PV.sl (.lo _) _])
            refine rA ?_ (x := cL [(false, [PV.sl (.lo _) _])] [(false, [PV.sl .v _])] FLawTopShared_c_12 (hs := by exact to_AnnotatedS (by omega)))
            refine rA ?_ (x := vM false [PV.sl (.lo _) _])
            refine rA ?_ (x := cL [(false, [PV.sl (.lo _) _])] [(false, [PV.sl .v _])] FLawTopShared_c_25 (hs := by exact to_IntS (by omega)))
            refine rA ?_ (x := sM)
            refine rA ?_ (x := sM)
            refine rA ?_ (x := cL [(false, [PV.sl _ _]), (false, [PV.sl _ _]), (false, [PV.val _]), (false, [PV.val _])] [(false, [PV.sl .v _]), (false, [PV.sl .v _]), (false, [PV.val _]), (false, [PV.val _])] FLawTopShared_c_26 (hs := by exact (impl_TopShared (by omega) (by omega))))
            refine rA ?_ (x := tM)
            refine rA ?_ (x := loc_extract (cs := [PV.sl _ _]) (qs := [PV.sl .v _]) (by decide) (by exact rfl) (by exact (ToL.cons PV.to_none ToL.nil)) (by exact (BorL.cons (PV.bor_sl _) BorL.nil)))
            refine rA ?_ (x := loc_extractb (cs := [PV.val _]) (by decide) (by exact rfl) (by exact (BorL.cons (PV.bor_val _) BorL.nil)))
            refine rA ?_ (x := tA)
            refine rA ?_ (x := sA)
            refine sw_seq ?_
            refine sw_seq ?_
            refine sO [(0, _), (1, _), (2, _), (3, _), (8, _), (9, _), (10, _), (11, _), (12, _), (13, _), (14, _), (15, _), (16, _), (17, _), (18, _), (19, _), (20, _)] [] ?_
            refine sw_reg ?_
            refine rA ?_ (x := vM false [PV.sl .v _])
            refine rA ?_ (x := vM false [PV.sl .v _])
            refine rA ?_ (x := cL [(false, [PV.sl _ _]), (false, [PV.sl _ _])] [(false, [PV.sl .v _]), (false, [PV.sl .v _])] FLawTopShared_c_27 (hs := by exact eq_RoutedS))
            refine rA ?_ (x := nT)
            refine rA ?_ (x := sM)
            refine RunS.cases (s := 114) rfl (fun g21 => ?_) (fun g21 => ?_)
            ·first | (simp [deq_self] at g21; done) | (simp only [decide_eq_true_eq] at g21; omega)
            ·have sg21 := g21
             try simp only [q1, q2, q3, q4, q5, q6, q7, q8, q9] at sg21
             refine rB g21 ?_ (x := sM)
             refine rB g21 ?_ (x := sM)
             refine rB g21 ?_ (x := B_neq)
             refine rA ?_ (x := pkF g21)
             refine sw_cond (t := 118) rfl (fun hb22 => ?_) (fun hb22 => ?_)
             ·try simp only [q1, q2, q3, q4, q5, q6, q7, q8, q9] at hb22
              first | exact absurd rfl hb22 | (simp [deq_self] at hb22; done) | omega
             ·try simp only [q1, q2, q3, q4, q5, q6, q7, q8, q9] at hb22
              refine sw_skip ?_
              refine sw_seq ?_
              refine sO [(0, _), (1, _), (2, _), (3, _), (8, _), (9, _), (10, _), (11, _), (12, _), (13, _), (14, _), (15, _), (16, _), (17, _), (18, _), (19, _), (20, _)] [] ?_
              refine sw_reg ?_
              refine rA ?_ (x := kA)
              refine sw_seq ?_
              refine sO [(0, _), (1, _), (2, _), (3, _), (8, _), (9, _), (10, _), (11, _), (12, _), (13, _), (14, _), (15, _), (16, _), (17, _), (18, _), (19, _), (20, _)] [] ?_
              refine sw_reg ?_
              refine rA ?_ (x := loc_copy (r' := RV.sv false [PV.sl .v _]) (.inl rfl) (by decide) (by exact Cp.sv (ToL.cons (PV.nv_to PV.to_none) ToL.nil) (BorL.cons (PV.bor_sl _) BorL.nil)))
              refine rA ?_ (x := sM)
              refine rA ?_ (x := cL [(false, [PV.sl _ _]), (false, [PV.val _])] [(false, [PV.sl .v _]), (false, [PV.val _])] FLawTopShared_c_31 (hs := by exact held_RoutedS (by omega) (by omega)))
              refine rA ?_ (x := sA)
              refine sw_seq ?_
              refine sw_seq ?_
              refine sO [(0, _), (1, _), (2, _), (3, _), (8, _), (9, _), (10, _), (11, _), (12, _), (13, _), (14, _), (15, _), (16, _), (17, _), (18, _), (19, _), (20, _)] [] ?_
              refine sw_reg ?_
              refine rA ?_ (x := sM)
              refine rA ?_ (x := B_lss)
              refine sw_cond (t := 123) rfl (fun hb23 => ?_) (fun hb23 => ?_)
              ·try simp only [q1, q2, q3, q4, q5, q6, q7, q8, q9] at hb23
               first | exact absurd rfl hb23 | (simp [deq_self] at hb23; done) | omega
              ·try simp only [q1, q2, q3, q4, q5, q6, q7, q8, q9] at hb23
               refine sw_skip ?_
               refine sw_seq ?_
               refine sw_seq ?_
               refine sO [(0, _), (1, _), (2, _), (3, _), (8, _), (9, _), (10, _), (11, _), (12, _), (13, _), (14, _), (15, _), (16, _), (17, _), (18, _), (19, _), (20, _)] [] ?_
               refine sw_reg ?_
               refine rA ?_ (x := sM)
               refine rA ?_ (x := sM)
               refine rA ?_ (x := B_neq)
               refine sw_cond (t := 126) rfl (fun hb24 => ?_) (fun hb24 => ?_)
               ·try simp only [q1, q2, q3, q4, q5, q6, q7, q8, q9] at hb24
                first | exact absurd rfl hb24 | (simp [deq_self] at hb24; done) | omega
               ·try simp only [q1, q2, q3, q4, q5, q6, q7, q8, q9] at hb24
                refine sw_skip ?_
                refine sw_seq ?_
                refine sO [(0, _), (1, _), (2, _), (3, _), (8, _), (9, _), (10, _), (11, _), (12, _), (13, _), (14, _), (15, _), (16, _), (17, _), (18, _), (19, _), (20, _)] [] ?_
                refine sw_reg ?_
                refine rA ?_ (x := kA)
                refine sw_ret ?_
                exact (And.intro (by exact rfl) True.intro)
end Go.Proofs.Ytloipjaiceifbaa
