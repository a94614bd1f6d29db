/- What functions of the program compute. No condition. -/
import Derived.Test.YtmkhofdkdklpdaaGreatCZMFnClusters
import Derived.Test.YtmkhofdkdklpdaaGreatCFcFnClusters
import Derived.Test.YtmkhofdkdklpdaaGreatCStRFnClusters
import Derived.Test.YtmkhofdkdklpdaaGreatCCmpFnClusters
import Derived.KernelRfl
set_option linter.unusedVariables false
set_option linter.unusedSimpArgs false
namespace Go.Proofs.YtmkhofdkdklpdaaGreat
open Go Go.RowKit M PV
set_option maxRecDepth 10000
attribute [local irreducible] PV.Lcl PV.LclR RV.Lcl
theorem insE_Row {q : Row × Row → Int} {p1 : Fl} {x : List Row} {a : Int} {b_ : Int}  (hx : x = []) (ha : a = 0) (hb : b_ = 0) : SCall Tryz.prog 112 [(false, [sl .v (x.map (cRow p1))]), (false, [val (vI a)]), (false, [val (vI b_)]), (false, [PV.clo Tryz.prog (as2 (fun x : Row => (true, [val (vI x.Id), sl .v (x.Values.map cInt)]))) (rsI q)])] (resRV []) := by
 refine scall_of (rs := []) Tryz.func112 rfl (nl rfl) (borA_cons (BorL.cons (bor_sl _) BorL.nil) (borA_cons (BorL.cons (bor_val _) BorL.nil) (borA_cons (BorL.cons (bor_val _) BorL.nil) (borA_cons (BorL.cons (bor_clo _ _) BorL.nil) borA_nil)))) ?_
 intro h0 w0 Fz0
 refine sj 0 fun hl0 => ?_
 refine sR ?_
 refine za8 ?_
 refine sw_block ?_
 refine sP [0, 1, 2, 3, 8] [] ?_
 refine sL [0, 1, 2, 3] [] (fun _u : Unit => True) (fun _u : Unit => [(8, RV.int 1)]) (fun _u : Unit => []) (fun _u : Unit => 0) () tI (by exact aI (by exact int_eq (by omega)) (tI)) (by exact ⟨⟩) ?_
 rintro _u _
 refine zfo ?_
 refine sc (fun hba => ?_) (fun hba => ?_)
 omega
 refine sw_exit ?_
 exact tI
theorem stbE_Row {q : Row × Row → Int} {p1 : Fl} {x : List Row} {c : Int}  (hx : x = []) (hc : c = 0) : SCall Tryz.prog 97 [(false, [sl .v (x.map (cRow p1))]), (false, [val (vI c)]), (false, [PV.clo Tryz.prog (as2 (fun x : Row => (true, [val (vI x.Id), sl .v (x.Values.map cInt)]))) (rsI q)])] (resRV []) := by
 refine scall_of (rs := []) Tryz.func97 rfl (nl rfl) (borA_cons (BorL.cons (bor_sl _) BorL.nil) (borA_cons (BorL.cons (bor_val _) BorL.nil) (borA_cons (BorL.cons (bor_clo _ _) BorL.nil) borA_nil))) ?_
 intro h0 w0 Fz0
 refine sj 0 fun hl0 => ?_
 refine za0 ?_
 refine sS [0, 1, 2, 6] [] ?_
 refine rM ?_
 refine rK ?_
 refine zk7 ?_
 refine sP [0, 1, 2, 6, 7, 8] [] ?_
 refine sL [0, 1, 2, 6] [] (fun _u : Unit => True) (fun _u : Unit => [(7, RV.int 0), (8, RV.int 20)]) (fun _u : Unit => []) (fun _u : Unit => 0) () tI (by exact aI (by exact rfl) (aI (by exact rfl) (tI))) (by exact ⟨⟩) ?_
 rintro _u _
 refine zk8 ?_
 refine zbp ?_
 refine rA ?_ (x := B_leq)
 refine sc (fun hba => ?_) (fun hba => ?_)
 omega
 refine sw_exit ?_
 refine sS [0, 1, 2, 6, 7, 8] [] ?_
 refine za7 ?_
 refine zkd ?_
 refine rA ?_ (x := cL [(false, [sl _ _]), (false, [val _]), (false, [val _]), (false, [PV.clo _ _ _])] [(false, [sl .v _]), (false, [val _]), (false, [val _]), (false, [PV.clo _ _ _])] c_112 (hs := by exact (insE_Row hx rfl (by omega))))
 refine sw_block ?_
 refine sP [0, 1, 2, 6, 7, 8] [] ?_
 refine sL [0, 1, 2] [] (fun _u : Unit => True) (fun _u : Unit => [(6, RV.int 20)]) (fun _u : Unit => []) (fun _u : Unit => 0) () tI (by exact aI (by exact rfl) (tI)) (by exact ⟨⟩) ?_
 rintro _u _
 refine zfo ?_
 refine sc (fun hbb => ?_) (fun hbb => ?_)
 omega
 refine sw_exit ?_
 exact tI
theorem sstE_Row {q : Row × Row → Int} {p1 : Fl} {x : List Row}  (hx : x = []) : SCall Tryz.prog 81 [(false, [sl .v (x.map (cRow p1))]), (false, [PV.clo Tryz.prog (as2 (fun x : Row => (true, [val (vI x.Id), sl .v (x.Values.map cInt)]))) (rsI q)])] (resRV []) := by
 refine scall_of (rs := []) Tryz.func81 rfl (nl rfl) (borA_cons (BorL.cons (bor_sl _) BorL.nil) (borA_cons (BorL.cons (bor_clo _ _) BorL.nil) borA_nil)) ?_
 intro h0 w0 Fz0
 refine sj 0 fun hl0 => ?_
 refine zal ?_
 refine zcb ?_
 refine rA ?_ (x := loc_copy (r' := RV.sv false [PV.clo _ _ _]) (.inl rfl) (by decide) (by exact Cp.sv (ToL.cons (PV.To.refl _) ToL.nil) (BorL.cons (bor_clo _ _) BorL.nil)))
 refine rA ?_ (x := cL [(false, [sl _ _]), (false, [val _]), (false, [PV.clo _ _ _])] [(false, [sl .v _]), (false, [val _]), (false, [PV.clo _ _ _])] c_97 (hs := by exact (stbE_Row hx (by rw [hx]; rfl))))
 exact tI
end Go.Proofs.YtmkhofdkdklpdaaGreat
