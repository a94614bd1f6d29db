/- What functions of the program compute. No condition. -/
import Derived.Test.YtmekkgdboplbjaaGreatDoorCW0
set_option linter.all false
namespace Go.Proofs.YtmekkgdboplbjaaGreatDoor
open Go Go.RowKit M PV Tryz
set_option maxRecDepth 10000
attribute [local irreducible] PV.Lcl PV.LclR RV.Lcl
set_option maxHeartbeats 8000000
def yy : fg prog 27 = some [(0, 1), (1, 1)] := by kernel_rfl
def oD : fg prog 29 = some [(0, 1), (1, 2), (3, 1), (4, 1)] := by kernel_rfl
def EK {ws : List ab}  (h0w : 0 < ws.length) (hw : ∀ j, (ws.getD j []).length ≤ 1048576) : bI prog gl 141 [(false, [sl .v (ws.map et)])] (ar [(true, [val (vI (cR ws).Kind), val (vI (cR ws).Row.Id), sl aM ((cR ws).Row.Values.map ap), val (vI (cR ws).Field), val (vI (cR ws).Value)])]) := by
 refine ek (rs := [(true, [val (vI (cR ws).Kind), val (vI (cR ws).Row.Id), sl aM ((cR ws).Row.Values.map ap), val (vI (cR ws).Field), val (vI (cR ws).Value)])]) func141 rfl (nl rfl) (cD (ak.cons (bor_sl _) ak.nil) cN) ?_
 intro h0 w0 Fz0
 refine sj 0 fun hl0 => ?_
 refine qD ?_
 refine sT [0, 2, 7000] [2] ?_
 refine vL ?_
 refine aT ?_
 refine fi ?_
 refine aT ?_
 refine jf ?_
 refine qk ?_
 refine jg ?_
 refine cx 10 (fun ga sga => ?_) (fun ga sga => ?_)
 refine rB ga ?_ (x := vM false [sl .v _])
 refine rB ga ?_ (x := lN bp)
 refine kd ?_
 refine rS ?_
 refine sc ?_ ?_ <;> intro hba
 have hc0 : (ws.getD 0 [] = [105, 110, 115, 101, 114, 116] ∧ ws.length = 2) := by first | (simp_all; done) | (constructor <;> first | omega | (simp_all; done)) | (rintro ⟨a_, b_⟩; first | omega | (simp_all; done) | (simp_all; omega))
 have hr := De hc0
 have h1w : 1 < ws.length := by omega
 refine sS [0, 2, 3, 7000] [2, 3] ?_
 refine qi ?_
 refine jf ?_
 refine lh ?_
 refine rA ?_ (x := gL [(false, [val _])] [(false, [val _])] DC (hs := by exact (Es (hw 1))))
 refine rA ?_ (x := tM)
 refine vo ?_
 refine rA ?_ (x := lF eJ)
 refine rA ?_ (x := bv (ag := true) (vs := [val _, sl _ _]) dV (by exact tI) (by exact rfl) (by exact nl rfl))
 exact uJ
 have hc0 : ¬ (ws.getD 0 [] = [105, 110, 115, 101, 114, 116] ∧ ws.length = 2) := by first | (simp_all; done) | (constructor <;> first | omega | (simp_all; done)) | (rintro ⟨a_, b_⟩; first | omega | (simp_all; done) | (simp_all; omega))
 refine lm ?_
 refine jg ?_
 refine cx 29 (fun gb sgb => ?_) (fun gb sgb => ?_)
 refine rB gb ?_ (x := vM false [sl .v _])
 refine rB gb ?_ (x := lN bp)
 refine rB gb ?_ (x := dC)
 refine rA ?_ (x := aG gb)
 refine rS ?_
 refine sc ?_ ?_ <;> intro hbb
 exact uL
 have hc1 : ¬ (ws.getD 0 [] = [100, 101, 108, 101, 116, 101] ∧ ws.length = 2) := by first | (simp_all; done) | (constructor <;> first | omega | (simp_all; done)) | (rintro ⟨a_, b_⟩; first | omega | (simp_all; done) | (simp_all; omega))
 refine lm ?_
 refine jg ?_
 refine cx 49 (fun gc sgc => ?_) (fun gc sgc => ?_)
 refine qy ?_
 refine rB gc ?_ (x := dC)
 refine kp ?_
 refine sc ?_ ?_ <;> intro hbc
 exact pw
 exact mT
 exact px
 refine fS ?_
 refine fw ?_
 exact uM
 refine fp ?_
 refine fw ?_
 have hc0 : ¬ (ws.getD 0 [] = [105, 110, 115, 101, 114, 116] ∧ ws.length = 2) := by first | (simp_all; done) | (constructor <;> first | omega | (simp_all; done)) | (rintro ⟨a_, b_⟩; first | omega | (simp_all; done) | (simp_all; omega))
 refine lm ?_
 refine jg ?_
 refine cx 29 (fun gb sgb => ?_) (fun gb sgb => ?_)
 refine rB gb ?_ (x := vM false [sl .v _])
 refine rB gb ?_ (x := lN bp)
 refine rB gb ?_ (x := dC)
 refine rA ?_ (x := aG gb)
 refine rS ?_
 refine sc ?_ ?_ <;> intro hba
 exact uL
 exact uM
 refine fS ?_
 refine fw ?_
 have hc1 : ¬ (ws.getD 0 [] = [100, 101, 108, 101, 116, 101] ∧ ws.length = 2) := by first | (simp_all; done) | (constructor <;> first | omega | (simp_all; done)) | (rintro ⟨a_, b_⟩; first | omega | (simp_all; done) | (simp_all; omega))
 refine lm ?_
 refine jg ?_
 refine cx 49 (fun gc sgc => ?_) (fun gc sgc => ?_)
 refine qy ?_
 refine rB gc ?_ (x := dC)
 refine kp ?_
 refine sc ?_ ?_ <;> intro hba
 exact pw
 exact mT
 exact px
def EL {s : ab}  (hl : s.length ≤ 1048576) : bI prog gl 57 [(false, [val (.string (B s))])] (ar [(true, [val (vI ((bF s).getD aQ).Kind), val (vI ((bF s).getD aQ).Row.Id), sl aM (((bF s).getD aQ).Row.Values.map ap), val (vI ((bF s).getD aQ).Field), val (vI ((bF s).getD aQ).Value)]), (false, [val (.bool (bF s).isSome)])]) := by
 refine ek (rs := [(true, [val (vI ((bF s).getD aQ).Kind), val (vI ((bF s).getD aQ).Row.Id), sl aM (((bF s).getD aQ).Row.Values.map ap), val (vI ((bF s).getD aQ).Field), val (vI ((bF s).getD aQ).Value)]), (false, [val (.bool (bF s).isSome)])]) func57 rfl (nl rfl) (cD (ak.cons (bor_val _) ak.nil) cN) ?_
 intro h0 w0 Fz0
 have hsl := gw 32 s
 have hfl := xe (cR (aa 32 s))
 refine qD ?_
 refine nB ?_
 refine wg ?_
 refine rA ?_ (x := gL [(false, [sl _ _])] [(false, [sl .v _])] Dz (hs := by exact (EK (ws := (aa 32 s)) (by omega) (fun j => Nat.le_trans (cQ 32 s j) (by omega)))))
 refine jZ ?_
 refine iq ?_
 refine sO [(0, _), (2, _), (3, _), (4, _), (7000, _)] [(2, _), (4, (29, [val _, val _, sl _ _, val _, val _]))] ?_
 refine cd ?_
 refine rA ?_ (x := lD [val _, val _, sl .v _, val _, val _] db)
 refine rA ?_ (x := cL [(true, [val _, val _, sl _ _, val _, val _])] [(true, [val _, val _, sl .v _, val _, val _])] qO (hs := by exact (rJ (x := cR (aa 32 s)))))
 refine fu ?_
 refine cx 11 (fun ga sga => ?_) (fun ga sga => ?_)
 refine fU ?_
 refine bY ?_
 exact uN
 refine rB ga ?_ (x := lD [val _, val _, sl .v _, val _, val _] db)
 refine rB ga ?_ (x := gL [(true, [val _, val _, sl _ _, val _, val _])] [(true, [val _, val _, sl .v _, val _, val _])] xV (hs := by exact (yu (u := cR (aa 32 s)))))
 refine jq ?_
 refine sc ?_ ?_ <;> intro hba
 exact uN
 have hys := Ck (s := s) (by rw [ox]; simp_all) (by rw [ox]; simp_all)
 rw [ox] at hys
 refine aK ?_
 refine sS [0, 2, 3, 4, 7000] [2, 4] ?_
 exact pz
def EM {s : ab}  (hl : s.length ≤ 1048576) : aD prog 53 [(false, [val (.string (B s))])] (ar [(true, [val (vI ((bF s).getD aQ).Kind), val (vI ((bF s).getD aQ).Row.Id), sl aM (((bF s).getD aQ).Row.Values.map ap), val (vI ((bF s).getD aQ).Field), val (vI ((bF s).getD aQ).Value)]), (false, [val (.bool (bF s).isSome)])]) := by
 refine sF func53 fun h0 w0 Fz0 => ?_
 have hsl := gw 32 s
 have hfl := xe (bO s)
 have hwd0 := cQ 32 s 0
 have hwd1 := cQ 32 s 1
 have hwd2 := cQ 32 s 2
 have hwd3 := cQ 32 s 3
 refine qD ?_
 refine rK ?_
 refine sT [0, 2, 3] [2] ?_
 refine rM ?_
 refine qb ?_
 refine sS [0, 2, 3, 4] [2] ?_
 refine vL ?_
 refine aT ?_
 refine fi ?_
 refine nc ?_
 refine cd ?_
 refine gK ?_
 refine ft ?_
 refine cx 15 (fun ga sga => ?_) (fun ga sga => ?_)
 have h0w : 0 < (aa 32 s).length := by have := ga; (try simp at this); omega
 have sga := ga
 try simp only [qq] at sga
 refine vQ ?_
 refine rB ga ?_ (x := lE [val _] bP)
 refine rB ga ?_ (x := ig)
 refine rA ?_ (x := aG ga)
 refine rS ?_
 refine sc ?_ ?_ <;> intro hba
 have hc0 : ((aa 32 s).length = 2 ∧ (aa 32 s).getD 0 [] = [105, 110, 115, 101, 114, 116]) := by first | (simp_all; done) | (constructor <;> first | omega | (simp_all; done)) | (rintro ⟨a_, b_⟩; first | omega | (simp_all; done) | (simp_all; omega))
 have hr := Di hc0
 have h1w : 1 < (aa 32 s).length := by omega
 refine sS [0, 2, 3, 4, 5] [2, 5] ?_
 refine lh ?_
 refine rA ?_ (x := cL [(false, [val _])] [(false, [val _])] Dw (hs := by exact (Et (by omega))))
 refine rA ?_ (x := tM)
 refine vo ?_
 refine pX ?_
 refine rS ?_
 refine sO [(0, _), (2, _), (3, _), (4, _), (5, _), (6, _), (7, _)] [(2, _), (5, _), (6, (27, [val _, sl _ _]))] ?_
 refine cd ?_
 refine rA ?_ (x := fM (ms := [val _, sl _ _]) (qs := [val _, sl .v _]) (by decide) dV (fun h => nomatch h) (by exact nl rfl) (by exact rfl) (by exact (aO (cG ao.nil))) (by exact (ak.cons (bor_val _) (ak.cons (bor_sl _) ak.nil))))
 refine pM ?_
 refine iq ?_
 refine sO [(0, _), (2, _), (3, _), (4, _), (5, _), (6, _), (7, _)] [(2, _), (5, (29, [val _, val _, sl _ _, val _, val _])), (6, (27, [val _, sl _ _]))] ?_
 refine eD (d := 5) (by exact rfl) (show _ = [val (vI (bO s).Kind), val (vI (bO s).Row.Id), sl aM ((bO s).Row.Values.map ap), val (vI (bO s).Field), val (vI (bO s).Value)] from by rw [hr] <;> rfl) ?_
 refine sG [0, 2, 3, 4, 5, 6, 7] [2, 5, 6] ?_
 refine fv ?_
 refine cx 60 (fun gb sgb => ?_) (fun gb sgb => ?_)
 refine lv ?_
 refine bY ?_
 exact uO
 refine zip ?_
 refine lz ?_
 refine sc ?_ ?_ <;> intro hbb
 exact uO
 have hys := xA (s := s) (by first | assumption | omega | (simp_all; done) | (simp_all; omega)) (by first | assumption | omega | (simp_all; done) | (simp_all; omega))
 refine aK ?_
 refine sS [0, 2, 3, 4, 5, 6, 7] [2, 5, 6] ?_
 exact pz
 have hc0 : ¬ ((aa 32 s).length = 2 ∧ (aa 32 s).getD 0 [] = [105, 110, 115, 101, 114, 116]) := by first | (simp_all; done) | (constructor <;> first | omega | (simp_all; done)) | (rintro ⟨a_, b_⟩; first | omega | (simp_all; done) | (simp_all; omega))
 refine gN ?_
 refine gM ?_
 refine sc ?_ ?_ <;> intro hbb
 have hc1 : (aa 32 s).length = 2 := by first | omega | (simp_all; done)
 have hr := xR hc0 hc1
 have h1w : 1 < (aa 32 s).length := by omega
 refine jn ?_
 refine vt ?_
 refine pM ?_
 exact uQ
 have hc1 : ¬ (aa 32 s).length = 2 := by first | omega | (simp_all; done)
 refine gN ?_
 refine gM ?_
 refine sc ?_ ?_ <;> intro hbc
 have hc2 : (aa 32 s).length = 4 := by omega
 have hr := xS hc0 hc1 hc2
 have h1w : 1 < (aa 32 s).length := by omega
 have h2w : 2 < (aa 32 s).length := by omega
 have h3w : 3 < (aa 32 s).length := by omega
 refine sP [0, 2, 3, 4, 5] [2, 5] ?_
 refine ce ck ?_
 refine pY ?_
 refine dA 3 ?_ (x := lE [val _] bP)
 refine vr ?_
 refine vU ?_
 refine dA 96 ?_ (x := lE [val _] bP)
 refine vH ?_
 refine wr ?_
 refine vi ?_
 refine aT ?_
 refine nc ?_
 exact uR
 have hc2 : ¬ (aa 32 s).length = 4 := by omega
 have hr := xT hc0 hc1 hc2
 refine cg ?_
 refine nq ?_
 exact uR
 refine fp ?_
 refine fw ?_
 have hc0 : ¬ ((aa 32 s).length = 2 ∧ (aa 32 s).getD 0 [] = [105, 110, 115, 101, 114, 116]) := by first | (simp_all; done) | (constructor <;> first | omega | (simp_all; done)) | (rintro ⟨a_, b_⟩; first | omega | (simp_all; done) | (simp_all; omega))
 refine gN ?_
 refine gM ?_
 refine sc ?_ ?_ <;> intro hba
 have hc1 : (aa 32 s).length = 2 := by first | omega | (simp_all; done)
 have hr := xR hc0 hc1
 have h1w : 1 < (aa 32 s).length := by omega
 refine jn ?_
 refine vt ?_
 refine pM ?_
 refine aT ?_
 refine nc ?_
 refine pP ?_
 refine fv ?_
 refine cx 60 (fun gb sgb => ?_) (fun gb sgb => ?_)
 exact pA
 refine zip ?_
 refine lz ?_
 refine sc ?_ ?_ <;> intro hbb
 exact mU
 exact pB
 have hc1 : ¬ (aa 32 s).length = 2 := by first | omega | (simp_all; done)
 refine gN ?_
 refine gM ?_
 refine sc ?_ ?_ <;> intro hbb
 have hc2 : (aa 32 s).length = 4 := by omega
 have hr := xS hc0 hc1 hc2
 have h1w : 1 < (aa 32 s).length := by omega
 have h2w : 2 < (aa 32 s).length := by omega
 have h3w : 3 < (aa 32 s).length := by omega
 refine sP [0, 2, 3, 4, 5] [2, 5] ?_
 refine ce ck ?_
 refine pY ?_
 refine dA 3 ?_ (x := lE [val _] bP)
 refine vr ?_
 refine vU ?_
 refine dA 96 ?_ (x := lE [val _] bP)
 refine vH ?_
 refine wr ?_
 refine vi ?_
 exact uQ
 have hc2 : ¬ (aa 32 s).length = 4 := by omega
 have hr := xT hc0 hc1 hc2
 refine cg ?_
 refine nq ?_
 exact uP
end Go.Proofs.YtmekkgdboplbjaaGreatDoor
