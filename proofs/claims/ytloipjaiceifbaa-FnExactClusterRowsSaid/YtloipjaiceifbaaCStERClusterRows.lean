/- What functions of the program compute. No condition. -/
import Derived.Test.YtloipjaiceifbaaCStRClusterRows
import Derived.Test.YtloipjaiceifbaaCCmpClusterRows
import Derived.KernelRfl
set_option linter.unusedVariables false
set_option linter.unusedSimpArgs false
namespace Go.Proofs.Ytloipjaiceifbaa
open Go Go.RowKit M
set_option maxRecDepth 10000
attribute [local irreducible] PV.Lcl PV.LclR RV.Lcl
theorem FStER_c_144 : callI Try.prog 144 = true := by kernel_rfl
theorem FStER_c_149 : callI Try.prog 149 = true := by kernel_rfl
theorem FStER_sl_32 : sliceI Try.prog 32 = some (87, 2, 32) := by kernel_rfl
theorem insE_Row {q : Row × Row → Int} {p1 : Fl} {x : List Row} {a : Int} {b_ : Int}  (hx : x = []) (ha : a = 0) (hb : b_ = 0) : SCall Try.prog 149 [(false, [PV.sl .v (x.map (cRow p1))]), (false, [PV.val (vI a)]), (false, [PV.val (vI b_)]), (false, [PV.clo Try.prog (as2 (fun x : Row => (true, [PV.val (vI x.Id), PV.sl .v (x.Values.map cInt)]))) (rsI q)])] (resRV []) := by
 refine scall_of (rs := []) Try.func149 rfl (Nat.le_of_ble_eq_true rfl) (borA_cons (BorL.cons (PV.bor_sl _) BorL.nil) (borA_cons (BorL.cons (PV.bor_val _) BorL.nil) (borA_cons (BorL.cons (PV.bor_val _) BorL.nil) (borA_cons (BorL.cons (PV.bor_clo _ _) BorL.nil) borA_nil)))) ?_
 intro h0 w0 Fz0
 refine sw_len (s := 0) rfl fun hl0 => ?_
 try rw [List.length_map] at hl0
 refine sw_seq ?_
 refine sw_reg ?_
 refine rA ?_ (x := sM)
 refine rA ?_ (x := B_add)
 refine rA ?_ (x := sA)
 refine sw_block ?_
 refine sO [(0, _), (1, _), (2, _), (3, _), (8, _)] [] ?_
 refine sw_loop (l0 := [(0, RV.sv false [PV.sl _ _]), (1, RV.sv false [PV.val _]), (2, RV.sv false [PV.val _]), (3, RV.sv false [PV.clo _ _ _])]) (b0 := []) (fun _u : Unit => True) (fun _u : Unit => [(8, RV.int 1)]) (fun _u : Unit => []) (fun _u : Unit => 0) () True.intro (by exact ⟨rfl, rfl, rfl, rfl, ⟨⟩⟩) (by exact ⟨⟩) (by exact And.intro (by exact int_eq (by omega)) (True.intro)) (by exact ⟨⟩) ?_
 rintro _u _
 refine sw_seq ?_
 refine sw_seq ?_
 refine sw_reg ?_
 refine rA ?_ (x := sM)
 refine rA ?_ (x := sM)
 refine rA ?_ (x := B_lss)
 refine sw_cond (t := 14) rfl (fun hb1 => ?_) (fun hb1 => ?_)
 ·try simp only [q1, q2, q3, q4, q5, q6, q7, q8, q9] at hb1
  omega
 ·try simp only [q1, q2, q3, q4, q5, q6, q7, q8, q9] at hb1
  refine sw_exit ?_
  exact True.intro
theorem stbE_Row {q : Row × Row → Int} {p1 : Fl} {x : List Row} {c : Int}  (hx : x = []) (hc : c = 0) : SCall Try.prog 144 [(false, [PV.sl .v (x.map (cRow p1))]), (false, [PV.val (vI c)]), (false, [PV.clo Try.prog (as2 (fun x : Row => (true, [PV.val (vI x.Id), PV.sl .v (x.Values.map cInt)]))) (rsI q)])] (resRV []) := by
 refine scall_of (rs := []) Try.func144 rfl (Nat.le_of_ble_eq_true rfl) (borA_cons (BorL.cons (PV.bor_sl _) BorL.nil) (borA_cons (BorL.cons (PV.bor_val _) BorL.nil) (borA_cons (BorL.cons (PV.bor_clo _ _) BorL.nil) borA_nil))) ?_
 intro h0 w0 Fz0
 refine sw_len (s := 0) rfl fun hl0 => ?_
 try rw [List.length_map] at hl0
 refine sw_seq ?_
 refine sw_reg ?_
 refine rA ?_ (x := kA)
 refine sw_seq ?_
 refine sO [(0, _), (1, _), (2, _), (6, _)] [] ?_
 refine sw_reg ?_
 refine rA ?_ (x := sM)
 refine rA ?_ (x := kA)
 refine rA ?_ (x := sA)
 refine sw_seq ?_
 refine sw_block ?_
 refine sO [(0, _), (1, _), (2, _), (6, _), (7, _), (8, _)] [] ?_
 refine sw_loop (l0 := [(0, RV.sv false [PV.sl _ _]), (1, RV.sv false [PV.val _]), (2, RV.sv false [PV.clo _ _ _]), (6, RV.sv false [PV.val _])]) (b0 := []) (fun _u : Unit => True) (fun _u : Unit => [(7, RV.int 0), (8, RV.int 20)]) (fun _u : Unit => []) (fun _u : Unit => 0) () True.intro (by exact ⟨rfl, rfl, rfl, rfl, ⟨⟩⟩) (by exact ⟨⟩) (by exact And.intro (by exact rfl) (And.intro (by exact rfl) (True.intro))) (by exact ⟨⟩) ?_
 rintro _u _
 refine sw_seq ?_
 refine sw_seq ?_
 refine sw_reg ?_
 refine rA ?_ (x := sM)
 refine rA ?_ (x := sM)
 refine rA ?_ (x := B_leq)
 refine sw_cond (t := 13) rfl (fun hb1 => ?_) (fun hb1 => ?_)
 ·try simp only [q1, q2, q3, q4, q5, q6, q7, q8, q9] at hb1
  omega
 ·try simp only [q1, q2, q3, q4, q5, q6, q7, q8, q9] at hb1
  refine sw_exit ?_
  refine sw_seq ?_
  refine sO [(0, _), (1, _), (2, _), (6, _), (7, _), (8, _)] [] ?_
  refine sw_reg ?_
  refine rA ?_ (x := vM false [PV.sl .v _])
  refine rA ?_ (x := sM)
  refine rA ?_ (x := sM)
  refine rA ?_ (x := loc_copy (r' := RV.sv false [PV.clo _ _ _]) (.inl rfl) (by decide) (by exact Cp.sv (ToL.cons (PV.To.refl _) ToL.nil) (BorL.cons (PV.bor_clo _ _) BorL.nil)))
  refine rA ?_ (x := cL [(false, [PV.sl _ _]), (false, [PV.val _]), (false, [PV.val _]), (false, [PV.clo _ _ _])] [(false, [PV.sl .v _]), (false, [PV.val _]), (false, [PV.val _]), (false, [PV.clo _ _ _])] FStER_c_149 (hs := by exact (insE_Row hx rfl (by omega))))
  refine sw_block ?_
  refine sO [(0, _), (1, _), (2, _), (6, _), (7, _), (8, _)] [] ?_
  refine sw_loop (l0 := [(0, RV.sv false [PV.sl _ _]), (1, RV.sv false [PV.val _]), (2, RV.sv false [PV.clo _ _ _])]) (b0 := []) (fun _u : Unit => True) (fun _u : Unit => [(6, RV.int 20)]) (fun _u : Unit => []) (fun _u : Unit => 0) () True.intro (by exact ⟨rfl, rfl, rfl, ⟨⟩⟩) (by exact ⟨⟩) (by exact And.intro (by exact rfl) (True.intro)) (by exact ⟨⟩) ?_
  rintro _u _
  refine sw_seq ?_
  refine sw_seq ?_
  refine sw_reg ?_
  refine rA ?_ (x := sM)
  refine rA ?_ (x := sM)
  refine rA ?_ (x := B_lss)
  refine sw_cond (t := 30) rfl (fun hb2 => ?_) (fun hb2 => ?_)
  ·try simp only [q1, q2, q3, q4, q5, q6, q7, q8, q9] at hb2
   omega
  ·try simp only [q1, q2, q3, q4, q5, q6, q7, q8, q9] at hb2
   refine sw_exit ?_
   exact True.intro
theorem sstE_Row {q : Row × Row → Int} {p1 : Fl} {x : List Row}  (hx : x = []) : SCall Try.prog 128 [(false, [PV.sl .v (x.map (cRow p1))]), (false, [PV.clo Try.prog (as2 (fun x : Row => (true, [PV.val (vI x.Id), PV.sl .v (x.Values.map cInt)]))) (rsI q)])] (resRV []) := by
 refine scall_of (rs := []) Try.func128 rfl (Nat.le_of_ble_eq_true rfl) (borA_cons (BorL.cons (PV.bor_sl _) BorL.nil) (borA_cons (BorL.cons (PV.bor_clo _ _) BorL.nil) borA_nil)) ?_
 intro h0 w0 Fz0
 refine sw_len (s := 0) rfl fun hl0 => ?_
 try rw [List.length_map] at hl0
 refine sw_reg ?_
 refine rA ?_ (x := vM false [PV.sl .v _])
 refine rA ?_ (x := vM false [PV.sl .v _])
 refine rA ?_ (x := lN FStER_sl_32)
 refine rA ?_ (x := loc_copy (r' := RV.sv false [PV.clo _ _ _]) (.inl rfl) (by decide) (by exact Cp.sv (ToL.cons (PV.To.refl _) ToL.nil) (BorL.cons (PV.bor_clo _ _) BorL.nil)))
 refine rA ?_ (x := cL [(false, [PV.sl _ _]), (false, [PV.val _]), (false, [PV.clo _ _ _])] [(false, [PV.sl .v _]), (false, [PV.val _]), (false, [PV.clo _ _ _])] FStER_c_144 (hs := by exact (stbE_Row hx (by rw [hx]; rfl))))
 exact True.intro
end Go.Proofs.Ytloipjaiceifbaa
