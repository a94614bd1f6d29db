/- What functions of the program compute. No condition. -/
import Derived.Test.YtgglfommkpgknaaCTo
import Derived.Test.YtgglfommkpgknaaCEq
import Derived.Test.YtgglfommkpgknaaCMk
import Derived.Test.YtgglfommkpgknaaCHe
import Derived.Test.YtgglfommkpgknaaCProg
set_option linter.unusedVariables false
set_option linter.unusedSimpArgs false
namespace Go.Proofs.Ytgglfommkpgknaa
open Go Go.RowKit M
set_option maxRecDepth 10000
theorem law_RouteJoined {p1 : Fl} {aL : List Joined} {aId : Int}  : SCall Try.prog 5 [(false, [PV.sl .v (aL.map (cJoined p1))]), (false, [PV.val (vI aId)])] (resRV [(false, [PV.val (.bool true)])]) := by
  refine scall_lo (largs := fun L => [(false, [PV.sl (.lo L) (aL.map (cJoined (.lo L)))]), (false, [PV.val (vI aId)])]) (rs := [(false, [PV.val (.bool true)])]) Try.func5 rfl (Nat.le_of_ble_eq_true rfl) (fun L => by exact (And.intro (And.intro rfl (ToBL.cons (PV.tob_map (fun _ => Nat.le_of_ble_eq_true rfl) (fun _ => (ToBL.cons PV.tob_refl (ToBL.cons PV.tob_refl (ToBL.cons (PV.tob_map (fun _ => Nat.le_of_ble_eq_true rfl) (fun _ => (ToBL.cons PV.tob_refl ToBL.nil))) ToBL.nil))))) ToBL.nil)) (And.intro (And.intro rfl (ToBL.cons PV.tob_refl ToBL.nil)) True.intro))) (fun L => by exact (borA_cons (BorL.cons (PV.bor_lo _ _) BorL.nil) (borA_cons (BorL.cons (PV.bor_val _) BorL.nil) borA_nil))) ?_
  intro w0 Fz0
  refine sw_len (s := 0) rfl fun hl0 => ?_
  try rw [List.length_map] at hl0
  refine sw_seq ?_
  refine sw_reg ?_
  refine RunS.step (by exact True.intro) (by exact True.intro) (LocG.of rfl (loc_const (.inr rfl) (by decide) (ok_sc rfl))) nofree ?_
  refine sw_seq ?_
  refine sw_of (l := [(0, RV.sv false [PV.sl (.lo _) _]), (1, RV.sv false [PV.val _]), (4, RV.sv false [PV.val _])]) (b := []) (by exact And.intro rfl (And.intro rfl (And.intro rfl True.intro))) (by exact True.intro) ?_
  refine sw_reg ?_
  refine RunS.step (by exact True.intro) (by exact True.intro) (LocG.of rfl (loc_const (.inr rfl) (by decide) (ok_sc rfl))) nofree ?_
  refine sw_seq ?_
  refine sw_of (l := [(0, RV.sv false [PV.sl (.lo _) _]), (1, RV.sv false [PV.val _]), (4, RV.sv false [PV.val _]), (5, RV.sv false [PV.val _])]) (b := []) (by exact And.intro rfl (And.intro rfl (And.intro rfl (And.intro rfl True.intro)))) (by exact True.intro) ?_
  refine sw_reg ?_
  refine RunS.step (by exact And.intro rfl True.intro) (by exact True.intro) (LocG.of rfl (loc_copy (r' := RV.sv false [PV.sl (.lo _) _]) (.inl rfl) (by decide) (by exact Cp.sv (ToL.cons (PV.To.refl _) ToL.nil) (BorL.cons (PV.bor_lo _ _) BorL.nil)))) nofree ?_
  refine RunS.step (by exact And.intro rfl True.intro) (by exact True.intro) (LocG.of rfl (loc_copy (.inl rfl) (by decide) (by exact Cp.sc))) nofree ?_
  refine RunS.step (by exact And.intro rfl (And.intro rfl True.intro)) (by exact True.intro) (LocG.of rfl (loc_call (qs := [(false, [PV.sl (.lo _) _]), (false, [PV.val _])]) (as_ := [(false, [PV.sl .v _]), (false, [PV.val _])]) (by decide) c_15 (by exact (And.intro (by exact True.intro) (And.intro (by exact True.intro) True.intro))) (by exact (And.intro (And.intro rfl (ToL.cons PV.to_none ToL.nil)) (And.intro (And.intro rfl (ToL.cons (PV.To.refl _) ToL.nil)) True.intro))) (by exact sz_JoinedS (by omega) (by omega)))) nofree ?_
  refine RunS.step (by exact And.intro rfl True.intro) (by exact True.intro) (LocG.of rfl (loc_copy (.inr rfl) (by decide) (by exact Cp.sc))) nofree ?_
  refine sw_seq ?_
  refine sw_seq ?_
  refine sw_of (l := [(0, RV.sv false [PV.sl (.lo _) _]), (1, RV.sv false [PV.val _]), (4, RV.sv false [PV.val _]), (5, RV.sv false [PV.val _])]) (b := []) (by exact And.intro rfl (And.intro rfl (And.intro rfl (And.intro rfl True.intro)))) (by exact True.intro) ?_
  refine sw_reg ?_
  refine RunS.step (by exact And.intro rfl True.intro) (by exact True.intro) (LocG.of rfl (loc_copy (.inl rfl) (by decide) (by exact Cp.sc))) nofree ?_
  refine RunS.step (by exact And.intro rfl True.intro) (by exact True.intro) (LocG.of rfl (loc_lss (by decide) (by exact True.intro) (ok_sc rfl))) nofree ?_
  refine sw_cond (t := 17) rfl (fun hb1 => ?_) (fun hb1 => ?_)
  · try simp only [decide_eq_true_eq, decide_eq_false_iff_not, bne_iff_ne, beq_iff_eq, Bool.not_eq_true', Bool.not_eq_false', ne_eq, bne_eq_false_iff_eq, beq_eq_false_iff_ne] at hb1
    refine sw_seq ?_
    refine sw_of (l := [(0, RV.sv false [PV.sl (.lo _) _]), (1, RV.sv false [PV.val _]), (4, RV.sv false [PV.val _]), (5, RV.sv false [PV.val _])]) (b := []) (by exact And.intro rfl (And.intro rfl (And.intro rfl (And.intro rfl True.intro)))) (by exact True.intro) ?_
    refine sw_reg ?_
    refine RunS.step (by exact True.intro) (by exact True.intro) (LocG.of rfl (loc_const (.inr rfl) (by decide) (ok_sc rfl))) nofree ?_
    refine sw_ret ?_
    exact (And.intro (by exact rfl) True.intro)
  · try simp only [decide_eq_true_eq, decide_eq_false_iff_not, bne_iff_ne, beq_iff_eq, Bool.not_eq_true', Bool.not_eq_false', ne_eq, bne_eq_false_iff_eq, beq_eq_false_iff_ne] at hb1
    have hp0 := szR_pos (w := wtJoinedS aL) (l := 1048576) hb1
    have he0 := szR_yes hp0
    have hw0 := routeAll_wt aL aId
    have hw1 : aL.length ≤ wtJoinedS aL := Nat.le_add_right _ _
    refine sw_skip ?_
    refine sw_seq ?_
    refine sw_of (l := [(0, RV.sv false [PV.sl (.lo _) _]), (1, RV.sv false [PV.val _]), (4, RV.sv false [PV.val _]), (5, RV.sv false [PV.val _])]) (b := []) (by exact And.intro rfl (And.intro rfl (And.intro rfl (And.intro rfl True.intro)))) (by exact True.intro) ?_
    refine sw_reg ?_
    refine RunS.step (by exact And.intro rfl True.intro) (by exact True.intro) (LocG.of rfl (loc_copy (r' := RV.sv false [PV.sl (.lo _) _]) (.inl rfl) (by decide) (by exact Cp.sv (ToL.cons (PV.To.refl _) ToL.nil) (BorL.cons (PV.bor_lo _ _) BorL.nil)))) nofree ?_
    refine RunS.step (by exact And.intro rfl True.intro) (by exact True.intro) (LocG.of rfl (loc_call (qs := [(false, [PV.sl (.lo _) _])]) (as_ := [(false, [PV.sl .v _])]) (by decide) c_17 (by exact (And.intro (by exact True.intro) True.intro)) (by exact (And.intro (And.intro rfl (ToL.cons PV.to_none ToL.nil)) True.intro)) (by exact to_JoinedS (by omega)))) nofree ?_
    refine RunS.step (by exact And.intro rfl True.intro) (by exact True.intro) (LocG.of rfl (loc_copy (.inl rfl) (by decide) (by exact Cp.sc))) nofree ?_
    refine RunS.step (by exact And.intro rfl (And.intro rfl True.intro)) (by exact True.intro) (LocG.of rfl (loc_call (qs := [(false, [PV.sl _ _]), (false, [PV.val _])]) (as_ := [(false, [PV.sl .v _]), (false, [PV.val _])]) (by decide) c_25 (by exact (And.intro (by exact True.intro) (And.intro (by exact True.intro) True.intro))) (by exact (And.intro (And.intro rfl (ToL.cons PV.to_none ToL.nil)) (And.intro (And.intro rfl (ToL.cons (PV.To.refl _) ToL.nil)) True.intro))) (by exact spec_RouteJoined (by omega)))) nofree ?_
    refine RunS.step (by exact And.intro rfl True.intro) (by exact True.intro) (LocG.of rfl (loc_take (.inr rfl) (by decide))) nofree ?_
    refine sw_seq ?_
    refine sw_of (l := [(0, RV.sv false [PV.sl (.lo _) _]), (1, RV.sv false [PV.val _]), (4, RV.sv false [PV.val _]), (5, RV.sv false [PV.val _]), (6, RV.sv false [PV.sl _ _])]) (b := []) (by exact And.intro rfl (And.intro rfl (And.intro rfl (And.intro rfl (And.intro rfl True.intro))))) (by exact True.intro) ?_
    refine sw_reg ?_
    refine RunS.step (by exact And.intro rfl True.intro) (by exact True.intro) (LocG.of rfl (loc_copy (r' := RV.sv false [PV.sl (.lo _) _]) (.inl rfl) (by decide) (by exact Cp.sv (ToL.cons (PV.To.refl _) ToL.nil) (BorL.cons (PV.bor_lo _ _) BorL.nil)))) nofree ?_
    refine RunS.step (by exact And.intro rfl True.intro) (by exact True.intro) (LocG.of rfl (loc_call (qs := [(false, [PV.sl (.lo _) _])]) (as_ := [(false, [PV.sl .v _])]) (by decide) c_17 (by exact (And.intro (by exact True.intro) True.intro)) (by exact (And.intro (And.intro rfl (ToL.cons PV.to_none ToL.nil)) True.intro)) (by exact to_JoinedS (by omega)))) nofree ?_
    refine RunS.step (by exact And.intro rfl True.intro) (by exact True.intro) (LocG.of rfl (loc_take (.inr rfl) (by decide))) nofree ?_
    refine sw_seq ?_
    refine sw_of (l := [(0, RV.sv false [PV.sl (.lo _) _]), (1, RV.sv false [PV.val _]), (4, RV.sv false [PV.val _]), (5, RV.sv false [PV.val _]), (6, RV.sv false [PV.sl _ _]), (7, RV.sv false [PV.sl _ _])]) (b := []) (by exact And.intro rfl (And.intro rfl (And.intro rfl (And.intro rfl (And.intro rfl (And.intro rfl True.intro)))))) (by exact True.intro) ?_
    refine sw_reg ?_
    refine RunS.step (by exact And.intro rfl True.intro) (by exact True.intro) (LocG.of rfl (loc_copy (r' := RV.sv false [PV.sl .v _]) (.inl rfl) (by decide) (by exact Cp.sv (ToL.cons PV.to_none ToL.nil) (BorL.cons (PV.bor_sl _) BorL.nil)))) nofree ?_
    refine RunS.step (by exact And.intro rfl True.intro) (by exact True.intro) (LocG.of rfl (loc_copy (.inl rfl) (by decide) (by exact Cp.sc))) nofree ?_
    refine RunS.step (by exact And.intro rfl (And.intro rfl True.intro)) (by exact True.intro) (LocG.of rfl (loc_call (qs := [(false, [PV.sl _ _]), (false, [PV.val _])]) (as_ := [(false, [PV.sl .v _]), (false, [PV.val _])]) (by decide) c_26 (by exact (And.intro (by exact True.intro) (And.intro (by exact True.intro) True.intro))) (by exact (And.intro (And.intro rfl (ToL.cons PV.to_none ToL.nil)) (And.intro (And.intro rfl (ToL.cons (PV.To.refl _) ToL.nil)) True.intro))) (by exact impl_RouteJoined (by omega)))) nofree ?_
    refine RunS.step (by exact And.intro rfl True.intro) (by exact True.intro) (LocG.of rfl (loc_take (.inr rfl) (by decide))) nofree ?_
    refine sw_seq ?_
    refine sw_seq ?_
    refine sw_of (l := [(0, RV.sv false [PV.sl (.lo _) _]), (1, RV.sv false [PV.val _]), (4, RV.sv false [PV.val _]), (5, RV.sv false [PV.val _]), (6, RV.sv false [PV.sl _ _]), (7, RV.sv false [PV.sl _ _]), (8, RV.sv false [PV.sl _ _])]) (b := []) (by exact And.intro rfl (And.intro rfl (And.intro rfl (And.intro rfl (And.intro rfl (And.intro rfl (And.intro rfl True.intro))))))) (by exact True.intro) ?_
    refine sw_reg ?_
    refine RunS.step (by exact And.intro rfl True.intro) (by exact True.intro) (LocG.of rfl (loc_copy (r' := RV.sv false [PV.sl .v _]) (.inl rfl) (by decide) (by exact Cp.sv (ToL.cons PV.to_none ToL.nil) (BorL.cons (PV.bor_sl _) BorL.nil)))) nofree ?_
    refine RunS.step (by exact And.intro rfl True.intro) (by exact True.intro) (LocG.of rfl (loc_copy (r' := RV.sv false [PV.sl .v _]) (.inl rfl) (by decide) (by exact Cp.sv (ToL.cons PV.to_none ToL.nil) (BorL.cons (PV.bor_sl _) BorL.nil)))) nofree ?_
    refine RunS.step (by exact And.intro rfl (And.intro rfl True.intro)) (by exact True.intro) (LocG.of rfl (loc_call (qs := [(false, [PV.sl _ _]), (false, [PV.sl _ _])]) (as_ := [(false, [PV.sl .v _]), (false, [PV.sl .v _])]) (by decide) c_19 (by exact (And.intro (by exact True.intro) (And.intro (by exact True.intro) True.intro))) (by exact (And.intro (And.intro rfl (ToL.cons PV.to_none ToL.nil)) (And.intro (And.intro rfl (ToL.cons PV.to_none ToL.nil)) True.intro))) (by exact eq_JoinedS))) nofree ?_
    refine RunS.step (by exact And.intro rfl True.intro) (by exact True.intro) (LocG.of rfl (loc_not (by decide))) nofree ?_
    refine sw_cond (t := 30) rfl (fun hb2 => ?_) (fun hb2 => ?_)
    · try simp only [decide_eq_true_eq, decide_eq_false_iff_not, bne_iff_ne, beq_iff_eq, Bool.not_eq_true', Bool.not_eq_false', ne_eq, bne_eq_false_iff_eq, beq_eq_false_iff_ne] at hb2
      first | exact absurd rfl hb2 | (simp [deq_self] at hb2; done) | omega
    · try simp only [decide_eq_true_eq, decide_eq_false_iff_not, bne_iff_ne, beq_iff_eq, Bool.not_eq_true', Bool.not_eq_false', ne_eq, bne_eq_false_iff_eq, beq_eq_false_iff_ne] at hb2
      refine sw_skip ?_
      refine sw_seq ?_
      refine sw_seq ?_
      refine sw_of (l := [(0, RV.sv false [PV.sl (.lo _) _]), (1, RV.sv false [PV.val _]), (4, RV.sv false [PV.val _]), (5, RV.sv false [PV.val _]), (6, RV.sv false [PV.sl _ _]), (7, RV.sv false [PV.sl _ _]), (8, RV.sv false [PV.sl _ _])]) (b := []) (by exact And.intro rfl (And.intro rfl (And.intro rfl (And.intro rfl (And.intro rfl (And.intro rfl (And.intro rfl True.intro))))))) (by exact True.intro) ?_
      refine sw_reg ?_
      refine RunS.step (by exact And.intro rfl True.intro) (by exact True.intro) (LocG.of rfl (loc_copy (r' := RV.sv false [PV.sl .v _]) (.inl rfl) (by decide) (by exact Cp.sv (ToL.cons PV.to_none ToL.nil) (BorL.cons (PV.bor_sl _) BorL.nil)))) nofree ?_
      refine RunS.step (by exact And.intro rfl True.intro) (by exact True.intro) (LocG.of rfl (loc_copy (r' := RV.sv false [PV.sl (.lo _) _]) (.inl rfl) (by decide) (by exact Cp.sv (ToL.cons (PV.To.refl _) ToL.nil) (BorL.cons (PV.bor_lo _ _) BorL.nil)))) nofree ?_
      refine RunS.step (by exact And.intro rfl True.intro) (by exact True.intro) (LocG.of rfl (loc_call (qs := [(false, [PV.sl (.lo _) _])]) (as_ := [(false, [PV.sl .v _])]) (by decide) c_17 (by exact (And.intro (by exact True.intro) True.intro)) (by exact (And.intro (And.intro rfl (ToL.cons PV.to_none ToL.nil)) True.intro)) (by exact to_JoinedS (by omega)))) nofree ?_
      refine RunS.step (by exact And.intro rfl (And.intro rfl True.intro)) (by exact True.intro) (LocG.of rfl (loc_call (qs := [(false, [PV.sl _ _]), (false, [PV.sl _ _])]) (as_ := [(false, [PV.sl .v _]), (false, [PV.sl .v _])]) (by decide) c_19 (by exact (And.intro (by exact True.intro) (And.intro (by exact True.intro) True.intro))) (by exact (And.intro (And.intro rfl (ToL.cons PV.to_none ToL.nil)) (And.intro (And.intro rfl (ToL.cons PV.to_none ToL.nil)) True.intro))) (by exact eq_JoinedS))) nofree ?_
      refine RunS.step (by exact And.intro rfl True.intro) (by exact True.intro) (LocG.of rfl (loc_not (by decide))) nofree ?_
      refine sw_cond (t := 35) rfl (fun hb3 => ?_) (fun hb3 => ?_)
      · try simp only [decide_eq_true_eq, decide_eq_false_iff_not, bne_iff_ne, beq_iff_eq, Bool.not_eq_true', Bool.not_eq_false', ne_eq, bne_eq_false_iff_eq, beq_eq_false_iff_ne] at hb3
        first | exact absurd rfl hb3 | (simp [deq_self] at hb3; done) | omega
      · try simp only [decide_eq_true_eq, decide_eq_false_iff_not, bne_iff_ne, beq_iff_eq, Bool.not_eq_true', Bool.not_eq_false', ne_eq, bne_eq_false_iff_eq, beq_eq_false_iff_ne] at hb3
        refine sw_skip ?_
        refine sw_seq ?_
        refine sw_of (l := [(0, RV.sv false [PV.sl (.lo _) _]), (1, RV.sv false [PV.val _]), (4, RV.sv false [PV.val _]), (5, RV.sv false [PV.val _]), (6, RV.sv false [PV.sl _ _]), (7, RV.sv false [PV.sl _ _]), (8, RV.sv false [PV.sl _ _])]) (b := []) (by exact And.intro rfl (And.intro rfl (And.intro rfl (And.intro rfl (And.intro rfl (And.intro rfl (And.intro rfl True.intro))))))) (by exact True.intro) ?_
        refine sw_reg ?_
        refine RunS.step (by exact True.intro) (by exact True.intro) (LocG.of rfl (loc_const (.inr rfl) (by decide) (ok_sc rfl))) nofree ?_
        refine sw_seq ?_
        refine sw_of (l := [(0, RV.sv false [PV.sl (.lo _) _]), (1, RV.sv false [PV.val _]), (4, RV.sv false [PV.val _]), (5, RV.sv false [PV.val _]), (6, RV.sv false [PV.sl _ _]), (7, RV.sv false [PV.sl _ _]), (8, RV.sv false [PV.sl _ _]), (9, RV.sv false [PV.val _])]) (b := []) (by exact And.intro rfl (And.intro rfl (And.intro rfl (And.intro rfl (And.intro rfl (And.intro rfl (And.intro rfl (And.intro rfl True.intro)))))))) (by exact True.intro) ?_
        refine sw_nmS (s := 7) (by exact rfl) fun us hus => ?_
        obtain ⟨u4_0, rfl⟩ := us_1 hus
        have hq5 := mkL_le mkE_Joined_le aL 1
        have hq6 := ctL_JoinedS aL 1
        refine sw_of (l := [(0, RV.sv false [PV.sl (.lo _) _]), (1, RV.sv false [PV.val _]), (4, RV.sv false [PV.val _]), (5, RV.sv false [PV.val _]), (6, RV.sv false [PV.sl _ _]), (7, RV.sv false [PV.nv _ (PV.sl _ _)]), (8, RV.sv false [PV.sl _ _]), (9, RV.sv false [PV.val _])]) (b := []) (by exact And.intro rfl (And.intro rfl (And.intro rfl (And.intro rfl (And.intro rfl (And.intro rfl (And.intro rfl (And.intro rfl True.intro)))))))) (by exact True.intro) ?_
        refine sw_regL ?_
        refine swl_step (by exact And.intro rfl True.intro) (by exact True.intro) (LocG.of rfl (loc_copy (r' := RV.sv false [PV.val _]) (.inl rfl) (by decide) (by exact Cp.sv (ToL.cons PV.nv_val ToL.nil) (BorL.cons (PV.bor_val _) BorL.nil)))) nofree ?_
        refine swl_step (by exact And.intro rfl True.intro) (by exact True.intro) (LocG.of rfl (loc_copy (.inl rfl) (by decide) (by exact Cp.sc))) nofree ?_
        refine swl_of (l := [(0, RV.sv false [PV.sl (.lo _) _]), (1, RV.sv false [PV.val _]), (4, RV.sv false [PV.val _]), (5, RV.sv false [PV.val _]), (6, RV.sv false [PV.sl _ _]), (7, RV.sv false [PV.nv _ (PV.sl _ _)]), (8, RV.sv false [PV.sl _ _]), (9, RV.sv false [PV.val _]), (36, RV.sv false [PV.val _]), (37, RV.sv false [PV.val _])]) (b := []) (by exact And.intro rfl (And.intro rfl (And.intro rfl (And.intro rfl (And.intro rfl (And.intro rfl (And.intro rfl (And.intro rfl (And.intro rfl (And.intro rfl True.intro)))))))))) (by exact True.intro) ?_
        refine swl_ucallS (s := 7) (L := w0.heap.size) (qr := [(false, [PV.val _])]) (as_ := [(false, [PV.val _])]) (by decide) c_27 rfl (by exact rfl) (by exact (Nm.val Nm.nil)) (by exact And.intro rfl True.intro) (by exact (And.intro (by exact True.intro) True.intro)) (by exact And.intro (And.intro rfl (ToL.cons (PV.To.refl _) ToL.nil)) True.intro) (by exact rfl) (by exact (Nm.nv Nm.nil)) (by exact (OwnTo.nv OwnTo.nil)) (by exact mark_JoinedS (x := aL) (by omega) (by omega)) (by exact (OwnFrom.nv OwnFrom.nil)) (fun x hx => hx) (by exact (And.intro (.inr (RV.lcl_sv (LclC.cons (PV.lcl_lo (LclRC.map fun x => (LclRC.cons PV.lclr_val (LclRC.cons PV.lclr_val (LclRC.cons (PV.lclr_lo (LclRC.map fun x => (LclRC.cons PV.lclr_val LclRC.nil))) LclRC.nil))))) LclC.nil))) (And.intro (.inr (RV.lcl_sv (LclC.cons PV.lcl_val LclC.nil))) (And.intro (.inr (RV.lcl_sv (LclC.cons PV.lcl_val LclC.nil))) (And.intro (.inr (RV.lcl_sv (LclC.cons PV.lcl_val LclC.nil))) (And.intro (.inr (RV.lcl_sv (LclC.cons (PV.lcl_own (LclC.map fun x => (LclC.cons PV.lcl_val (LclC.cons PV.lcl_val (LclC.cons (PV.lcl_own (LclC.map fun x => (LclC.cons PV.lcl_val LclC.nil))) LclC.nil))))) LclC.nil))) (And.intro (.inl rfl) (And.intro (.inr (RV.lcl_sv (LclC.cons (PV.lcl_own (LclC.map fun x => (LclC.cons PV.lcl_val (LclC.cons PV.lcl_val (LclC.cons (PV.lcl_own (LclC.map fun x => (LclC.cons PV.lcl_val LclC.nil))) LclC.nil))))) LclC.nil))) (And.intro (.inr (RV.lcl_sv (LclC.cons PV.lcl_val LclC.nil))) (And.intro (.inr (RV.lcl_sv (LclC.cons PV.lcl_val LclC.nil))) (And.intro (.inr (RV.lcl_sv (LclC.cons PV.lcl_val LclC.nil))) True.intro))))))))))) (by intro p hp; cases hp) rfl (by decide) ?_
        refine swl_step (by exact And.intro rfl True.intro) (by exact True.intro) (LocG.of rfl (loc_copy (.inr rfl) (by decide) (by exact Cp.sc))) nofree ?_
        refine swl_nil ?_
        refine sw_seq ?_
        refine sw_seq ?_
        refine sw_of (l := [(0, RV.sv false [PV.sl (.lo _) _]), (1, RV.sv false [PV.val _]), (4, RV.sv false [PV.val _]), (5, RV.sv false [PV.val _]), (6, RV.sv false [PV.sl _ _]), (7, RV.sv false [PV.nv _ (PV.sl _ _)]), (8, RV.sv false [PV.sl _ _]), (9, RV.sv false [PV.val _])]) (b := []) (by exact And.intro rfl (And.intro rfl (And.intro rfl (And.intro rfl (And.intro rfl (And.intro rfl (And.intro rfl (And.intro rfl True.intro)))))))) (by exact True.intro) ?_
        refine sw_reg ?_
        refine RunS.step (by exact And.intro rfl True.intro) (by exact True.intro) (LocG.of rfl (loc_copy (.inl rfl) (by decide) (by exact Cp.sc))) nofree ?_
        refine RunS.step (by exact And.intro rfl True.intro) (by exact True.intro) (LocG.of rfl (loc_lss (by decide) (by exact True.intro) (ok_sc rfl))) nofree ?_
        refine RunS.step (by exact And.intro rfl True.intro) (by exact True.intro) (LocG.of rfl (loc_copy (.inl rfl) (by decide) (by exact Cp.sc))) nofree ?_
        refine RunS.cases (s := 41) rfl (fun g7 => ?_) (fun g7 => ?_)
        · first | (simp [deq_self] at g7; done) | (simp only [decide_eq_true_eq] at g7; omega)
        · refine RunS.step (by exact And.intro rfl (And.intro rfl True.intro)) (by exact True.intro) (LocG.yes rfl rfl (by decide) g7 (loc_copy (r' := RV.sv false [PV.sl .v _]) (.inl rfl) (by decide) (by exact Cp.sv (ToL.cons PV.to_none ToL.nil) (BorL.cons (PV.bor_sl _) BorL.nil)))) nofree ?_
          refine RunS.step (by exact And.intro rfl (And.intro rfl True.intro)) (by exact True.intro) (LocG.yes rfl rfl (by decide) g7 (loc_copy (r' := RV.sv false [PV.sl .v _]) (.inl rfl) (by decide) (by exact Cp.sv (ToL.cons PV.to_none ToL.nil) (BorL.cons (PV.bor_sl _) BorL.nil)))) nofree ?_
          refine RunS.step (by exact And.intro rfl (And.intro rfl (And.intro rfl True.intro))) (by exact True.intro) (LocG.yes rfl rfl (by decide) g7 (loc_call (qs := [(false, [PV.sl _ _]), (false, [PV.sl _ _])]) (as_ := [(false, [PV.sl .v _]), (false, [PV.sl .v _])]) (by decide) c_19 (by exact (And.intro (by exact True.intro) (And.intro (by exact True.intro) True.intro))) (by exact (And.intro (And.intro rfl (ToL.cons PV.to_none ToL.nil)) (And.intro (And.intro rfl (ToL.cons PV.to_none ToL.nil)) True.intro))) (by exact eq_JoinedS))) nofree ?_
          refine RunS.step (by exact And.intro rfl (And.intro rfl True.intro)) (by exact True.intro) (LocG.yes rfl rfl (by decide) g7 (loc_not (by decide))) nofree ?_
          refine RunS.step (by exact And.intro rfl (And.intro rfl True.intro)) (by exact True.intro) (LocG.of rfl (loc_pick (z := .tmp 45) (by decide) (by rw [g7]; rfl) (by exact True.intro) (by exact True.intro) (by exact Cp.sc))) nofree ?_
          refine sw_cond (t := 46) rfl (fun hb8 => ?_) (fun hb8 => ?_)
          · try simp only [decide_eq_true_eq, decide_eq_false_iff_not, bne_iff_ne, beq_iff_eq, Bool.not_eq_true', Bool.not_eq_false', ne_eq, bne_eq_false_iff_eq, beq_eq_false_iff_ne] at hb8
            first | exact absurd rfl hb8 | (simp [deq_self] at hb8; done) | omega
          · try simp only [decide_eq_true_eq, decide_eq_false_iff_not, bne_iff_ne, beq_iff_eq, Bool.not_eq_true', Bool.not_eq_false', ne_eq, bne_eq_false_iff_eq, beq_eq_false_iff_ne] at hb8
            refine sw_skip ?_
            refine sw_seq ?_
            refine sw_of (l := [(0, RV.sv false [PV.sl (.lo _) _]), (1, RV.sv false [PV.val _]), (4, RV.sv false [PV.val _]), (5, RV.sv false [PV.val _]), (6, RV.sv false [PV.sl _ _]), (7, RV.sv false [PV.nv _ (PV.sl _ _)]), (8, RV.sv false [PV.sl _ _]), (9, RV.sv false [PV.val _])]) (b := []) (by exact And.intro rfl (And.intro rfl (And.intro rfl (And.intro rfl (And.intro rfl (And.intro rfl (And.intro rfl (And.intro rfl True.intro)))))))) (by exact True.intro) ?_
            refine sw_reg ?_
            refine RunS.step (by exact True.intro) (by exact True.intro) (LocG.of rfl (loc_const (.inr rfl) (by decide) (ok_sc rfl))) nofree ?_
            refine sw_seq ?_
            refine sw_of (l := [(0, RV.sv false [PV.sl (.lo _) _]), (1, RV.sv false [PV.val _]), (4, RV.sv false [PV.val _]), (5, RV.sv false [PV.val _]), (6, RV.sv false [PV.sl _ _]), (7, RV.sv false [PV.nv _ (PV.sl _ _)]), (8, RV.sv false [PV.sl _ _]), (9, RV.sv false [PV.val _]), (10, RV.sv false [PV.val _])]) (b := []) (by exact And.intro rfl (And.intro rfl (And.intro rfl (And.intro rfl (And.intro rfl (And.intro rfl (And.intro rfl (And.intro rfl (And.intro rfl True.intro))))))))) (by exact True.intro) ?_
            refine sw_nmS (s := 8) (by exact rfl) fun us hus => ?_
            obtain ⟨u9_0, rfl⟩ := us_1 hus
            have hq10 := mkL_le mkE_Joined_le (routeAll aL aId) 1
            have hq11 := ctL_JoinedS (routeAll aL aId) 1
            refine sw_of (l := [(0, RV.sv false [PV.sl (.lo _) _]), (1, RV.sv false [PV.val _]), (4, RV.sv false [PV.val _]), (5, RV.sv false [PV.val _]), (6, RV.sv false [PV.sl _ _]), (7, RV.sv false [PV.nv _ (PV.sl _ _)]), (8, RV.sv false [PV.nv _ (PV.sl _ _)]), (9, RV.sv false [PV.val _]), (10, RV.sv false [PV.val _])]) (b := []) (by exact And.intro rfl (And.intro rfl (And.intro rfl (And.intro rfl (And.intro rfl (And.intro rfl (And.intro rfl (And.intro rfl (And.intro rfl True.intro))))))))) (by exact True.intro) ?_
            refine sw_regL ?_
            refine swl_step (by exact And.intro rfl True.intro) (by exact True.intro) (LocG.of rfl (loc_copy (r' := RV.sv false [PV.val _]) (.inl rfl) (by decide) (by exact Cp.sv (ToL.cons PV.nv_val ToL.nil) (BorL.cons (PV.bor_val _) BorL.nil)))) nofree ?_
            refine swl_step (by exact And.intro rfl True.intro) (by exact True.intro) (LocG.of rfl (loc_copy (.inl rfl) (by decide) (by exact Cp.sc))) nofree ?_
            refine swl_of (l := [(0, RV.sv false [PV.sl (.lo _) _]), (1, RV.sv false [PV.val _]), (4, RV.sv false [PV.val _]), (5, RV.sv false [PV.val _]), (6, RV.sv false [PV.sl _ _]), (7, RV.sv false [PV.nv _ (PV.sl _ _)]), (8, RV.sv false [PV.nv _ (PV.sl _ _)]), (9, RV.sv false [PV.val _]), (10, RV.sv false [PV.val _]), (47, RV.sv false [PV.val _]), (48, RV.sv false [PV.val _])]) (b := []) (by exact And.intro rfl (And.intro rfl (And.intro rfl (And.intro rfl (And.intro rfl (And.intro rfl (And.intro rfl (And.intro rfl (And.intro rfl (And.intro rfl (And.intro rfl True.intro))))))))))) (by exact True.intro) ?_
            refine swl_ucallS (s := 8) (L := w0.heap.size) (qr := [(false, [PV.val _])]) (as_ := [(false, [PV.val _])]) (by decide) c_27 rfl (by exact rfl) (by exact (Nm.val Nm.nil)) (by exact And.intro rfl True.intro) (by exact (And.intro (by exact True.intro) True.intro)) (by exact And.intro (And.intro rfl (ToL.cons (PV.To.refl _) ToL.nil)) True.intro) (by exact rfl) (by exact (Nm.nv Nm.nil)) (by exact (OwnTo.nv OwnTo.nil)) (by exact mark_JoinedS (x := (routeAll aL aId)) (by omega) (by omega)) (by exact (OwnFrom.nv OwnFrom.nil)) (fun x hx => hx) (by exact (And.intro (.inr (RV.lcl_sv (LclC.cons (PV.lcl_lo (LclRC.map fun x => (LclRC.cons PV.lclr_val (LclRC.cons PV.lclr_val (LclRC.cons (PV.lclr_lo (LclRC.map fun x => (LclRC.cons PV.lclr_val LclRC.nil))) LclRC.nil))))) LclC.nil))) (And.intro (.inr (RV.lcl_sv (LclC.cons PV.lcl_val LclC.nil))) (And.intro (.inr (RV.lcl_sv (LclC.cons PV.lcl_val LclC.nil))) (And.intro (.inr (RV.lcl_sv (LclC.cons PV.lcl_val LclC.nil))) (And.intro (.inr (RV.lcl_sv (LclC.cons (PV.lcl_own (LclC.map fun x => (LclC.cons PV.lcl_val (LclC.cons PV.lcl_val (LclC.cons (PV.lcl_own (LclC.map fun x => (LclC.cons PV.lcl_val LclC.nil))) LclC.nil))))) LclC.nil))) (And.intro (.inr (RV.lcl_sv (LclC.cons (PV.lcl_nv (PV.lcl_own (LclC.map fun x => (LclC.cons PV.lcl_val (LclC.cons PV.lcl_val (LclC.cons (PV.lcl_own (LclC.map fun x => (LclC.cons PV.lcl_val LclC.nil))) LclC.nil)))))) LclC.nil))) (And.intro (.inl rfl) (And.intro (.inr (RV.lcl_sv (LclC.cons PV.lcl_val LclC.nil))) (And.intro (.inr (RV.lcl_sv (LclC.cons PV.lcl_val LclC.nil))) (And.intro (.inr (RV.lcl_sv (LclC.cons PV.lcl_val LclC.nil))) (And.intro (.inr (RV.lcl_sv (LclC.cons PV.lcl_val LclC.nil))) True.intro)))))))))))) (by intro p hp; cases hp) rfl (by decide) ?_
            refine swl_step (by exact And.intro rfl True.intro) (by exact True.intro) (LocG.of rfl (loc_copy (.inr rfl) (by decide) (by exact Cp.sc))) nofree ?_
            refine swl_nil ?_
            refine sw_seq ?_
            refine sw_of (l := [(0, RV.sv false [PV.sl (.lo _) _]), (1, RV.sv false [PV.val _]), (4, RV.sv false [PV.val _]), (5, RV.sv false [PV.val _]), (6, RV.sv false [PV.sl _ _]), (7, RV.sv false [PV.nv _ (PV.sl _ _)]), (8, RV.sv false [PV.nv _ (PV.sl _ _)]), (9, RV.sv false [PV.val _]), (10, RV.sv false [PV.val _])]) (b := []) (by exact And.intro rfl (And.intro rfl (And.intro rfl (And.intro rfl (And.intro rfl (And.intro rfl (And.intro rfl (And.intro rfl (And.intro rfl True.intro))))))))) (by exact True.intro) ?_
            refine sw_reg ?_
            refine RunS.step (by exact True.intro) (by exact True.intro) (LocG.of rfl (loc_const (.inr rfl) (by decide) (ok_sc rfl))) nofree ?_
            refine sw_seq ?_
            refine sw_of (l := [(0, RV.sv false [PV.sl (.lo _) _]), (1, RV.sv false [PV.val _]), (4, RV.sv false [PV.val _]), (5, RV.sv false [PV.val _]), (6, RV.sv false [PV.sl _ _]), (7, RV.sv false [PV.nv _ (PV.sl _ _)]), (8, RV.sv false [PV.nv _ (PV.sl _ _)]), (9, RV.sv false [PV.val _]), (10, RV.sv false [PV.val _]), (11, RV.sv false [PV.val _])]) (b := []) (by exact And.intro rfl (And.intro rfl (And.intro rfl (And.intro rfl (And.intro rfl (And.intro rfl (And.intro rfl (And.intro rfl (And.intro rfl (And.intro rfl True.intro)))))))))) (by exact True.intro) ?_
            refine sw_reg ?_
            refine RunS.step (by exact And.intro rfl True.intro) (by exact True.intro) (LocG.of rfl (loc_copy (r' := RV.sv false [PV.sl .v _]) (.inl rfl) (by decide) (by exact Cp.sv (ToL.cons (PV.nv_to PV.to_none) ToL.nil) (BorL.cons (PV.bor_sl _) BorL.nil)))) nofree ?_
            refine RunS.step (by exact And.intro rfl True.intro) (by exact True.intro) (LocG.of rfl (loc_copy (.inl rfl) (by decide) (by exact Cp.sc))) nofree ?_
            refine RunS.step (by exact And.intro rfl (And.intro rfl True.intro)) (by exact True.intro) (LocG.of rfl (loc_call (qs := [(false, [PV.sl _ _]), (false, [PV.val _])]) (as_ := [(false, [PV.sl .v _]), (false, [PV.val _])]) (by decide) c_28 (by exact (And.intro (by exact True.intro) (And.intro (by exact True.intro) True.intro))) (by exact (And.intro (And.intro rfl (ToL.cons PV.to_none ToL.nil)) (And.intro (And.intro rfl (ToL.cons (PV.To.refl _) ToL.nil)) True.intro))) (by exact held_JoinedS (by omega) (by omega)))) nofree ?_
            refine RunS.step (by exact And.intro rfl True.intro) (by exact True.intro) (LocG.of rfl (loc_copy (.inr rfl) (by decide) (by exact Cp.sc))) nofree ?_
            refine sw_seq ?_
            refine sw_seq ?_
            refine sw_of (l := [(0, RV.sv false [PV.sl (.lo _) _]), (1, RV.sv false [PV.val _]), (4, RV.sv false [PV.val _]), (5, RV.sv false [PV.val _]), (6, RV.sv false [PV.sl _ _]), (7, RV.sv false [PV.nv _ (PV.sl _ _)]), (8, RV.sv false [PV.nv _ (PV.sl _ _)]), (9, RV.sv false [PV.val _]), (10, RV.sv false [PV.val _]), (11, RV.sv false [PV.val _])]) (b := []) (by exact And.intro rfl (And.intro rfl (And.intro rfl (And.intro rfl (And.intro rfl (And.intro rfl (And.intro rfl (And.intro rfl (And.intro rfl (And.intro rfl True.intro)))))))))) (by exact True.intro) ?_
            refine sw_reg ?_
            refine RunS.step (by exact And.intro rfl True.intro) (by exact True.intro) (LocG.of rfl (loc_copy (.inl rfl) (by decide) (by exact Cp.sc))) nofree ?_
            refine RunS.step (by exact And.intro rfl True.intro) (by exact True.intro) (LocG.of rfl (loc_lss (by decide) (by exact True.intro) (ok_sc rfl))) nofree ?_
            refine sw_cond (t := 54) rfl (fun hb12 => ?_) (fun hb12 => ?_)
            · try simp only [decide_eq_true_eq, decide_eq_false_iff_not, bne_iff_ne, beq_iff_eq, Bool.not_eq_true', Bool.not_eq_false', ne_eq, bne_eq_false_iff_eq, beq_eq_false_iff_ne] at hb12
              first | exact absurd rfl hb12 | (simp [deq_self] at hb12; done) | omega
            · try simp only [decide_eq_true_eq, decide_eq_false_iff_not, bne_iff_ne, beq_iff_eq, Bool.not_eq_true', Bool.not_eq_false', ne_eq, bne_eq_false_iff_eq, beq_eq_false_iff_ne] at hb12
              refine sw_skip ?_
              refine sw_seq ?_
              refine sw_seq ?_
              refine sw_of (l := [(0, RV.sv false [PV.sl (.lo _) _]), (1, RV.sv false [PV.val _]), (4, RV.sv false [PV.val _]), (5, RV.sv false [PV.val _]), (6, RV.sv false [PV.sl _ _]), (7, RV.sv false [PV.nv _ (PV.sl _ _)]), (8, RV.sv false [PV.nv _ (PV.sl _ _)]), (9, RV.sv false [PV.val _]), (10, RV.sv false [PV.val _]), (11, RV.sv false [PV.val _])]) (b := []) (by exact And.intro rfl (And.intro rfl (And.intro rfl (And.intro rfl (And.intro rfl (And.intro rfl (And.intro rfl (And.intro rfl (And.intro rfl (And.intro rfl True.intro)))))))))) (by exact True.intro) ?_
              refine sw_reg ?_
              refine RunS.step (by exact And.intro rfl True.intro) (by exact True.intro) (LocG.of rfl (loc_copy (.inl rfl) (by decide) (by exact Cp.sc))) nofree ?_
              refine RunS.step (by exact And.intro rfl True.intro) (by exact True.intro) (LocG.of rfl (loc_copy (.inl rfl) (by decide) (by exact Cp.sc))) nofree ?_
              refine RunS.step (by exact And.intro rfl (And.intro rfl True.intro)) (by exact True.intro) (LocG.of rfl (loc_neq (by decide) (by exact True.intro) (by exact True.intro))) nofree ?_
              refine sw_cond (t := 57) rfl (fun hb13 => ?_) (fun hb13 => ?_)
              · try simp only [decide_eq_true_eq, decide_eq_false_iff_not, bne_iff_ne, beq_iff_eq, Bool.not_eq_true', Bool.not_eq_false', ne_eq, bne_eq_false_iff_eq, beq_eq_false_iff_ne] at hb13
                first | exact absurd rfl hb13 | (simp [deq_self] at hb13; done) | omega
              · try simp only [decide_eq_true_eq, decide_eq_false_iff_not, bne_iff_ne, beq_iff_eq, Bool.not_eq_true', Bool.not_eq_false', ne_eq, bne_eq_false_iff_eq, beq_eq_false_iff_ne] at hb13
                refine sw_skip ?_
                refine sw_seq ?_
                refine sw_of (l := [(0, RV.sv false [PV.sl (.lo _) _]), (1, RV.sv false [PV.val _]), (4, RV.sv false [PV.val _]), (5, RV.sv false [PV.val _]), (6, RV.sv false [PV.sl _ _]), (7, RV.sv false [PV.nv _ (PV.sl _ _)]), (8, RV.sv false [PV.nv _ (PV.sl _ _)]), (9, RV.sv false [PV.val _]), (10, RV.sv false [PV.val _]), (11, RV.sv false [PV.val _])]) (b := []) (by exact And.intro rfl (And.intro rfl (And.intro rfl (And.intro rfl (And.intro rfl (And.intro rfl (And.intro rfl (And.intro rfl (And.intro rfl (And.intro rfl True.intro)))))))))) (by exact True.intro) ?_
                refine sw_reg ?_
                refine RunS.step (by exact And.intro rfl True.intro) (by exact True.intro) (LocG.of rfl (loc_copy (r' := RV.sv false [PV.sl (.lo _) _]) (.inl rfl) (by decide) (by exact Cp.sv (ToL.cons (PV.To.refl _) ToL.nil) (BorL.cons (PV.bor_lo _ _) BorL.nil)))) nofree ?_
                refine RunS.step (by exact And.intro rfl True.intro) (by exact True.intro) (LocG.of rfl (loc_call (qs := [(false, [PV.sl (.lo _) _])]) (as_ := [(false, [PV.sl .v _])]) (by decide) c_17 (by exact (And.intro (by exact True.intro) True.intro)) (by exact (And.intro (And.intro rfl (ToL.cons PV.to_none ToL.nil)) True.intro)) (by exact to_JoinedS (by omega)))) nofree ?_
                refine RunS.step (by exact And.intro rfl True.intro) (by exact True.intro) (LocG.of rfl (loc_copy (.inl rfl) (by decide) (by exact Cp.sc))) nofree ?_
                refine RunS.step (by exact And.intro rfl (And.intro rfl True.intro)) (by exact True.intro) (LocG.of rfl (loc_call (qs := [(false, [PV.sl _ _]), (false, [PV.val _])]) (as_ := [(false, [PV.sl .v _]), (false, [PV.val _])]) (by decide) c_26 (by exact (And.intro (by exact True.intro) (And.intro (by exact True.intro) True.intro))) (by exact (And.intro (And.intro rfl (ToL.cons PV.to_none ToL.nil)) (And.intro (And.intro rfl (ToL.cons (PV.To.refl _) ToL.nil)) True.intro))) (by exact impl_RouteJoined (by omega)))) nofree ?_
                refine RunS.step (by exact And.intro rfl True.intro) (by exact True.intro) (LocG.of rfl (loc_take (.inr rfl) (by decide))) nofree ?_
                refine sw_seq ?_
                refine sw_seq ?_
                refine sw_of (l := [(0, RV.sv false [PV.sl (.lo _) _]), (1, RV.sv false [PV.val _]), (4, RV.sv false [PV.val _]), (5, RV.sv false [PV.val _]), (6, RV.sv false [PV.sl _ _]), (7, RV.sv false [PV.nv _ (PV.sl _ _)]), (8, RV.sv false [PV.nv _ (PV.sl _ _)]), (9, RV.sv false [PV.val _]), (10, RV.sv false [PV.val _]), (11, RV.sv false [PV.val _]), (12, RV.sv false [PV.sl _ _])]) (b := []) (by exact And.intro rfl (And.intro rfl (And.intro rfl (And.intro rfl (And.intro rfl (And.intro rfl (And.intro rfl (And.intro rfl (And.intro rfl (And.intro rfl (And.intro rfl True.intro))))))))))) (by exact True.intro) ?_
                refine sw_reg ?_
                refine RunS.step (by exact And.intro rfl True.intro) (by exact True.intro) (LocG.of rfl (loc_copy (r' := RV.sv false [PV.sl .v _]) (.inl rfl) (by decide) (by exact Cp.sv (ToL.cons PV.to_none ToL.nil) (BorL.cons (PV.bor_sl _) BorL.nil)))) nofree ?_
                refine RunS.step (by exact And.intro rfl True.intro) (by exact True.intro) (LocG.of rfl (loc_copy (r' := RV.sv false [PV.sl .v _]) (.inl rfl) (by decide) (by exact Cp.sv (ToL.cons PV.to_none ToL.nil) (BorL.cons (PV.bor_sl _) BorL.nil)))) nofree ?_
                refine RunS.step (by exact And.intro rfl (And.intro rfl True.intro)) (by exact True.intro) (LocG.of rfl (loc_call (qs := [(false, [PV.sl _ _]), (false, [PV.sl _ _])]) (as_ := [(false, [PV.sl .v _]), (false, [PV.sl .v _])]) (by decide) c_19 (by exact (And.intro (by exact True.intro) (And.intro (by exact True.intro) True.intro))) (by exact (And.intro (And.intro rfl (ToL.cons PV.to_none ToL.nil)) (And.intro (And.intro rfl (ToL.cons PV.to_none ToL.nil)) True.intro))) (by exact eq_JoinedS))) nofree ?_
                refine RunS.step (by exact And.intro rfl True.intro) (by exact True.intro) (LocG.of rfl (loc_not (by decide))) nofree ?_
                refine sw_cond (t := 65) rfl (fun hb14 => ?_) (fun hb14 => ?_)
                · try simp only [decide_eq_true_eq, decide_eq_false_iff_not, bne_iff_ne, beq_iff_eq, Bool.not_eq_true', Bool.not_eq_false', ne_eq, bne_eq_false_iff_eq, beq_eq_false_iff_ne] at hb14
                  first | exact absurd rfl hb14 | (simp [deq_self] at hb14; done) | omega
                · try simp only [decide_eq_true_eq, decide_eq_false_iff_not, bne_iff_ne, beq_iff_eq, Bool.not_eq_true', Bool.not_eq_false', ne_eq, bne_eq_false_iff_eq, beq_eq_false_iff_ne] at hb14
                  refine sw_skip ?_
                  refine sw_seq ?_
                  refine sw_of (l := [(0, RV.sv false [PV.sl (.lo _) _]), (1, RV.sv false [PV.val _]), (4, RV.sv false [PV.val _]), (5, RV.sv false [PV.val _]), (6, RV.sv false [PV.sl _ _]), (7, RV.sv false [PV.nv _ (PV.sl _ _)]), (8, RV.sv false [PV.nv _ (PV.sl _ _)]), (9, RV.sv false [PV.val _]), (10, RV.sv false [PV.val _]), (11, RV.sv false [PV.val _]), (12, RV.sv false [PV.sl _ _])]) (b := []) (by exact And.intro rfl (And.intro rfl (And.intro rfl (And.intro rfl (And.intro rfl (And.intro rfl (And.intro rfl (And.intro rfl (And.intro rfl (And.intro rfl (And.intro rfl True.intro))))))))))) (by exact True.intro) ?_
                  refine sw_reg ?_
                  refine RunS.step (by exact True.intro) (by exact True.intro) (LocG.of rfl (loc_const (.inr rfl) (by decide) (ok_sc rfl))) nofree ?_
                  refine sw_seq ?_
                  refine sw_of (l := [(0, RV.sv false [PV.sl (.lo _) _]), (1, RV.sv false [PV.val _]), (4, RV.sv false [PV.val _]), (5, RV.sv false [PV.val _]), (6, RV.sv false [PV.sl _ _]), (7, RV.sv false [PV.nv _ (PV.sl _ _)]), (8, RV.sv false [PV.nv _ (PV.sl _ _)]), (9, RV.sv false [PV.val _]), (10, RV.sv false [PV.val _]), (11, RV.sv false [PV.val _]), (12, RV.sv false [PV.sl _ _])]) (b := []) (by exact And.intro rfl (And.intro rfl (And.intro rfl (And.intro rfl (And.intro rfl (And.intro rfl (And.intro rfl (And.intro rfl (And.intro rfl (And.intro rfl (And.intro rfl True.intro))))))))))) (by exact True.intro) ?_
                  refine sw_reg ?_
                  refine RunS.step (by exact And.intro rfl True.intro) (by exact True.intro) (LocG.of rfl (loc_copy (r' := RV.sv false [PV.sl .v _]) (.inl rfl) (by decide) (by exact Cp.sv (ToL.cons (PV.nv_to PV.to_none) ToL.nil) (BorL.cons (PV.bor_sl _) BorL.nil)))) nofree ?_
                  refine RunS.step (by exact And.intro rfl True.intro) (by exact True.intro) (LocG.of rfl (loc_copy (.inl rfl) (by decide) (by exact Cp.sc))) nofree ?_
                  refine RunS.step (by exact And.intro rfl (And.intro rfl True.intro)) (by exact True.intro) (LocG.of rfl (loc_call (qs := [(false, [PV.sl _ _]), (false, [PV.val _])]) (as_ := [(false, [PV.sl .v _]), (false, [PV.val _])]) (by decide) c_28 (by exact (And.intro (by exact True.intro) (And.intro (by exact True.intro) True.intro))) (by exact (And.intro (And.intro rfl (ToL.cons PV.to_none ToL.nil)) (And.intro (And.intro rfl (ToL.cons (PV.To.refl _) ToL.nil)) True.intro))) (by exact held_JoinedS (by omega) (by omega)))) nofree ?_
                  refine RunS.step (by exact And.intro rfl True.intro) (by exact True.intro) (LocG.of rfl (loc_copy (.inr rfl) (by decide) (by exact Cp.sc))) nofree ?_
                  refine sw_seq ?_
                  refine sw_seq ?_
                  refine sw_of (l := [(0, RV.sv false [PV.sl (.lo _) _]), (1, RV.sv false [PV.val _]), (4, RV.sv false [PV.val _]), (5, RV.sv false [PV.val _]), (6, RV.sv false [PV.sl _ _]), (7, RV.sv false [PV.nv _ (PV.sl _ _)]), (8, RV.sv false [PV.nv _ (PV.sl _ _)]), (9, RV.sv false [PV.val _]), (10, RV.sv false [PV.val _]), (11, RV.sv false [PV.val _]), (12, RV.sv false [PV.sl _ _])]) (b := []) (by exact And.intro rfl (And.intro rfl (And.intro rfl (And.intro rfl (And.intro rfl (And.intro rfl (And.intro rfl (And.intro rfl (And.intro rfl (And.intro rfl (And.intro rfl True.intro))))))))))) (by exact True.intro) ?_
                  refine sw_reg ?_
                  refine RunS.step (by exact And.intro rfl True.intro) (by exact True.intro) (LocG.of rfl (loc_copy (.inl rfl) (by decide) (by exact Cp.sc))) nofree ?_
                  refine RunS.step (by exact And.intro rfl True.intro) (by exact True.intro) (LocG.of rfl (loc_lss (by decide) (by exact True.intro) (ok_sc rfl))) nofree ?_
                  refine sw_cond (t := 70) rfl (fun hb15 => ?_) (fun hb15 => ?_)
                  · try simp only [decide_eq_true_eq, decide_eq_false_iff_not, bne_iff_ne, beq_iff_eq, Bool.not_eq_true', Bool.not_eq_false', ne_eq, bne_eq_false_iff_eq, beq_eq_false_iff_ne] at hb15
                    first | exact absurd rfl hb15 | (simp [deq_self] at hb15; done) | omega
                  · try simp only [decide_eq_true_eq, decide_eq_false_iff_not, bne_iff_ne, beq_iff_eq, Bool.not_eq_true', Bool.not_eq_false', ne_eq, bne_eq_false_iff_eq, beq_eq_false_iff_ne] at hb15
                    refine sw_skip ?_
                    refine sw_seq ?_
                    refine sw_seq ?_
                    refine sw_of (l := [(0, RV.sv false [PV.sl (.lo _) _]), (1, RV.sv false [PV.val _]), (4, RV.sv false [PV.val _]), (5, RV.sv false [PV.val _]), (6, RV.sv false [PV.sl _ _]), (7, RV.sv false [PV.nv _ (PV.sl _ _)]), (8, RV.sv false [PV.nv _ (PV.sl _ _)]), (9, RV.sv false [PV.val _]), (10, RV.sv false [PV.val _]), (11, RV.sv false [PV.val _]), (12, RV.sv false [PV.sl _ _])]) (b := []) (by exact And.intro rfl (And.intro rfl (And.intro rfl (And.intro rfl (And.intro rfl (And.intro rfl (And.intro rfl (And.intro rfl (And.intro rfl (And.intro rfl (And.intro rfl True.intro))))))))))) (by exact True.intro) ?_
                    refine sw_reg ?_
                    refine RunS.step (by exact And.intro rfl True.intro) (by exact True.intro) (LocG.of rfl (loc_copy (.inl rfl) (by decide) (by exact Cp.sc))) nofree ?_
                    refine RunS.step (by exact And.intro rfl True.intro) (by exact True.intro) (LocG.of rfl (loc_copy (.inl rfl) (by decide) (by exact Cp.sc))) nofree ?_
                    refine RunS.step (by exact And.intro rfl (And.intro rfl True.intro)) (by exact True.intro) (LocG.of rfl (loc_neq (by decide) (by exact True.intro) (by exact True.intro))) nofree ?_
                    refine sw_cond (t := 73) rfl (fun hb16 => ?_) (fun hb16 => ?_)
                    · try simp only [decide_eq_true_eq, decide_eq_false_iff_not, bne_iff_ne, beq_iff_eq, Bool.not_eq_true', Bool.not_eq_false', ne_eq, bne_eq_false_iff_eq, beq_eq_false_iff_ne] at hb16
                      first | exact absurd rfl hb16 | (simp [deq_self] at hb16; done) | omega
                    · try simp only [decide_eq_true_eq, decide_eq_false_iff_not, bne_iff_ne, beq_iff_eq, Bool.not_eq_true', Bool.not_eq_false', ne_eq, bne_eq_false_iff_eq, beq_eq_false_iff_ne] at hb16
                      refine sw_skip ?_
                      refine sw_seq ?_
                      refine sw_of (l := [(0, RV.sv false [PV.sl (.lo _) _]), (1, RV.sv false [PV.val _]), (4, RV.sv false [PV.val _]), (5, RV.sv false [PV.val _]), (6, RV.sv false [PV.sl _ _]), (7, RV.sv false [PV.nv _ (PV.sl _ _)]), (8, RV.sv false [PV.nv _ (PV.sl _ _)]), (9, RV.sv false [PV.val _]), (10, RV.sv false [PV.val _]), (11, RV.sv false [PV.val _]), (12, RV.sv false [PV.sl _ _])]) (b := []) (by exact And.intro rfl (And.intro rfl (And.intro rfl (And.intro rfl (And.intro rfl (And.intro rfl (And.intro rfl (And.intro rfl (And.intro rfl (And.intro rfl (And.intro rfl True.intro))))))))))) (by exact True.intro) ?_
                      refine sw_reg ?_
                      refine RunS.step (by exact True.intro) (by exact True.intro) (LocG.of rfl (loc_const (.inr rfl) (by decide) (ok_sc rfl))) nofree ?_
                      refine sw_ret ?_
                      exact (And.intro (by exact rfl) True.intro)
end Go.Proofs.Ytgglfommkpgknaa
