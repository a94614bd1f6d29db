/- What functions of the program compute. No condition. -/
import Derived.Test.YtmekkgdboplbjaaGreatDoorCX0
set_option linter.all false
namespace Go.Proofs.YtmekkgdboplbjaaGreatDoor
open Go Go.RowKit M PV Tryz
set_option maxRecDepth 10000
attribute [local irreducible] PV.Lcl PV.LclR RV.Lcl
set_option maxHeartbeats 8000000
def mg : fg prog 31 = some [(0, 1), (1, 4), (5, 1), (6, 1), (7, 5), (12, 1)] := by kernel_rfl
def rQ : prog.underlying 9 = some .string := by kernel_rfl
def EN {s : ab}  (hl : s.length ≤ 1048576) : bI prog gl 10 [(false, [val (.string (B s))])] (ar [(true, [val (vI ((aJ s).getD aZ).Kind), val (vI ((aJ s).getD aZ).FY.Id), val (vI ((aJ s).getD aZ).FY.Gc), sl cC (((aJ s).getD aZ).FY.FZ.map aV), sl aM (((aJ s).getD aZ).FY.Out.map ap), val (vI ((aJ s).getD aZ).Limit), val (vI ((aJ s).getD aZ).Id), val (vI ((aJ s).getD aZ).Ga.Kind), val (vI ((aJ s).getD aZ).Ga.Row.Id), sl aM (((aJ s).getD aZ).Ga.Row.Values.map ap), val (vI ((aJ s).getD aZ).Ga.Field), val (vI ((aJ s).getD aZ).Ga.Value), val (vI ((aJ s).getD aZ).Steps)]), (false, [val (.bool (aJ s).isSome)])]) := by
 refine ek (rs := [(true, [val (vI ((aJ s).getD aZ).Kind), val (vI ((aJ s).getD aZ).FY.Id), val (vI ((aJ s).getD aZ).FY.Gc), sl cC (((aJ s).getD aZ).FY.FZ.map aV), sl aM (((aJ s).getD aZ).FY.Out.map ap), val (vI ((aJ s).getD aZ).Limit), val (vI ((aJ s).getD aZ).Id), val (vI ((aJ s).getD aZ).Ga.Kind), val (vI ((aJ s).getD aZ).Ga.Row.Id), sl aM (((aJ s).getD aZ).Ga.Row.Values.map ap), val (vI ((aJ s).getD aZ).Ga.Field), val (vI ((aJ s).getD aZ).Ga.Value), val (vI ((aJ s).getD aZ).Steps)]), (false, [val (.bool (aJ s).isSome)])]) func10 rfl (nl rfl) (cD (ak.cons (bor_val _) ak.nil) cN) ?_
 intro h0 w0 Fz0
 have hca := kK s [32]
 have hcz := kL s [32]
 have hca2 := kK (ct s [32]) [32]
 have hcz2 := kL (ct s [32]) [32]
 refine sR ?_
 refine rX ?_ (x := (dZ (by decide) hE hH))
 refine nB ?_
 refine rM ?_
 refine vX ?_
 refine kv ?_
 refine rS ?_
 refine sS [0, 2, 3, 4, 5, 6, 7000] [2] ?_
 refine vv ?_
 refine fW ?_
 refine sO [(0, _), (2, _), (3, _), (4, _), (5, _), (6, _), (7, _), (7000, _)] [(2, _), (7, (31, [val _, val _, val _, sl _ _, sl _ _, val _, val _, val _, val _, sl _ _, val _, val _, val _]))] ?_
 refine cd ?_
 refine rM ?_
 refine fi ?_
 refine qx ?_
 refine rS ?_
 refine sc ?_ ?_ <;> intro hba
 have hc0 : bw s [32] = [97, 100, 109, 105, 116] := by simpa using hba
 have hr := Dj hc0
 refine nk ?_
 refine aT ?_
 refine mY ?_
 refine rM ?_
 refine vX ?_
 refine kv ?_
 refine rS ?_
 refine sS [0, 2, 3, 4, 5, 6, 7, 8, 9, 10, 18, 7000] [2, 7] ?_
 refine eU ?_
 refine rA ?_ (x := lF gR)
 refine rA ?_ (x := bv (ag := false) (vs := [val _]) aA (by exact tI) (by exact rfl) (by exact nl rfl))
 refine sO [(0, _), (2, _), (3, _), (4, _), (5, _), (6, _), (7, _), (8, _), (9, _), (10, _), (18, _), (7000, _)] [(2, _), (7, (31, [val _, val _, val _, sl _ _, sl _ _, val _, val _, val _, val _, sl _ _, val _, val _, val _]))] ?_
 refine cd ?_
 refine rM ?_
 refine rA ?_ (x := gL [(false, [val _])] [(false, [val _])] DH (hs := by exact (EI (by omega))))
 refine rA ?_ (x := tM)
 refine vm ?_
 refine rA ?_ (x := lF nX)
 refine rA ?_ (x := bv (ag := true) (vs := [val _, val _, sl _ _, sl _ _]) du (by exact tI) (by exact rfl) (by exact nl rfl))
 refine iq ?_
 refine sO [(0, _), (2, _), (3, _), (4, _), (5, _), (6, _), (7, _), (8, _), (9, _), (10, _), (18, _), (7000, _)] [(2, _), (7, (31, [val _, val _, val _, sl _ _, sl _ _, val _, val _, val _, val _, sl _ _, val _, val _, val _]))] ?_
 refine eD (d := 7) (by exact rfl) (show _ = [val (vI (aR s).Kind), val (vI (aR s).FY.Id), val (vI (aR s).FY.Gc), sl cC ((aR s).FY.FZ.map aV), sl aM ((aR s).FY.Out.map ap), val (vI (aR s).Limit), val (vI (aR s).Id), val (vI (aR s).Ga.Kind), val (vI (aR s).Ga.Row.Id), sl aM ((aR s).Ga.Row.Values.map ap), val (vI (aR s).Ga.Field), val (vI (aR s).Ga.Value), val (vI (aR s).Steps)] from by rw [hr] <;> rfl) ?_
 refine sG [0, 2, 3, 4, 5, 6, 7, 8, 9, 10, 18, 7000] [2, 7] ?_
 refine pL ?_
 refine fu ?_
 refine cx 68 (fun ga sga => ?_) (fun ga sga => ?_)
 refine fU ?_
 refine bY ?_
 exact uS
 refine pK ?_
 refine jq ?_
 refine sc ?_ ?_ <;> intro hbb
 exact uS
 have hys := xM (s := s) (by simp_all) (by simp_all)
 refine aK ?_
 refine sS [0, 2, 3, 4, 5, 6, 7, 8, 9, 10, 18, 7000] [2, 7] ?_
 exact kY
 have hc0 : ¬ bw s [32] = [97, 100, 109, 105, 116] := by simpa using hba
 refine qx ?_
 refine rS ?_
 refine sc ?_ ?_ <;> intro hbb
 have hc1 : bw s [32] = [99, 97, 110, 99, 101, 108] := by simpa using hbb
 have hr := Dk hc0 hc1
 refine nk ?_
 refine mY ?_
 refine eU ?_
 refine rA ?_ (x := lF eY)
 refine rA ?_ (x := bv (ag := false) (vs := [val _]) aA (by exact tI) (by exact rfl) (by exact nl rfl))
 refine iq ?_
 refine vf ?_
 refine sG [0, 2, 3, 4, 5, 6, 7, 18, 7000] [2, 7] ?_
 refine pL ?_
 refine fu ?_
 refine cx 68 (fun ga sga => ?_) (fun ga sga => ?_)
 exact uT
 refine pK ?_
 refine jq ?_
 refine sc ?_ ?_ <;> intro hbc
 exact pC
 exact uU
 have hc1 : ¬ bw s [32] = [99, 97, 110, 99, 101, 108] := by simpa using hbb
 refine qx ?_
 refine rS ?_
 refine sc ?_ ?_ <;> intro hbc
 have hc2 : bw s [32] = [115, 116, 101, 112] := by simpa using hbc
 have hr := Dl hc0 hc1 hc2
 refine nk ?_
 refine mY ?_
 refine eU ?_
 refine rA ?_ (x := lF gS)
 refine rA ?_ (x := bv (ag := false) (vs := [val _]) aA (by exact tI) (by exact rfl) (by exact nl rfl))
 exact uV
 have hc2 : ¬ bw s [32] = [115, 116, 101, 112] := by simpa using hbc
 have hr := Dm hc0 hc1 hc2
 refine nk ?_
 refine mY ?_
 refine rM ?_
 refine rA ?_ (x := gL [(false, [val _])] [(false, [val _])] DI (hs := by exact (EL (by omega))))
 refine rA ?_ (x := tM)
 refine ld ?_
 refine rA ?_ (x := lF jx)
 refine rA ?_ (x := bv (ag := true) (vs := [val _, val _, sl _ _, val _, val _]) db (by exact tI) (by exact rfl) (by exact nl rfl))
 exact uV
def EO {s : ab}  (hl : s.length ≤ 1048576) : aD prog 9 [(false, [val (.string (B s))])] (ar [(true, [val (vI ((aJ s).getD aZ).Kind), val (vI ((aJ s).getD aZ).FY.Id), val (vI ((aJ s).getD aZ).FY.Gc), sl cC (((aJ s).getD aZ).FY.FZ.map aV), sl aM (((aJ s).getD aZ).FY.Out.map ap), val (vI ((aJ s).getD aZ).Limit), val (vI ((aJ s).getD aZ).Id), val (vI ((aJ s).getD aZ).Ga.Kind), val (vI ((aJ s).getD aZ).Ga.Row.Id), sl aM (((aJ s).getD aZ).Ga.Row.Values.map ap), val (vI ((aJ s).getD aZ).Ga.Field), val (vI ((aJ s).getD aZ).Ga.Value), val (vI ((aJ s).getD aZ).Steps)]), (false, [val (.bool (aJ s).isSome)])]) := by
 refine sF func9 fun h0 w0 Fz0 => ?_
 have hsl := gw 32 s
 have hwd0 := cQ 32 s 0
 have hwd1 := cQ 32 s 1
 refine sR ?_
 refine rX ?_ (x := (dZ (by decide) hE hH))
 refine rK ?_
 refine sT [0, 2, 3] [2] ?_
 refine rM ?_
 refine qb ?_
 refine sS [0, 2, 3, 4] [2] ?_
 refine vv ?_
 refine ve ?_
 refine fi ?_
 refine aT ?_
 refine sO [(0, _), (2, _), (3, _), (4, _), (5, _)] [(2, _), (5, (31, [val _, val _, val _, sl _ _, sl _ _, val _, val _, val _, val _, sl _ _, val _, val _, val _]))] ?_
 refine cd ?_
 refine gK ?_
 refine rA ?_ (x := fl)
 refine rM ?_
 refine cx 25 (fun ga sga => ?_) (fun ga sga => ?_)
 have h0w : 0 < (aa 32 s).length := by have := ga; (try simp at this); omega
 have sga := ga
 try simp only [qq] at sga
 refine vQ ?_
 refine rB ga ?_ (x := lE [val _] bP)
 refine rB ga ?_ (x := ig)
 refine rA ?_ (x := aG ga)
 refine rS ?_
 refine sc ?_ ?_ <;> intro hba
 have hc0 : (2 < (aa 32 s).length ∧ (aa 32 s).getD 0 [] = [97, 100, 109, 105, 116]) := by first | (simp_all; done) | (constructor <;> first | omega | (simp_all; done)) | (rintro ⟨a_, b_⟩; first | omega | (simp_all; done) | (simp_all; omega))
 have hr := Dn hc0
 have h1w : 1 < (aa 32 s).length := by omega
 have hn2 := Dc hc0.1
 refine nq ?_
 refine ce ck ?_
 refine vW ?_
 refine dA 3 ?_ (x := lE [val _] bP)
 refine dA 7 ?_ (x := fQ rQ)
 refine vT ?_
 refine dA 48 ?_ (x := lE [val _] bP)
 refine dA 112 ?_ (x := fQ rQ)
 refine dA 255 ?_ (x := jX)
 refine dA 511 ?_ (x := jX)
 refine dA 1023 ?_ (x := sA)
 refine sS [0, 2, 3, 4, 5, 6] [2, 5] ?_
 refine bU ?_
 refine rA ?_ (x := wC (((aa 32 s).getD 0 []).length + ((aa 32 s).getD 1 []).length + 2) rQ (u := (s.drop (((aa 32 s).getD 0 []).length + ((aa 32 s).getD 1 []).length + 2))) (by omega) (by omega) (by rw [dl]))
 refine rA ?_ (x := cL [(false, [val _])] [(false, [val _])] DF (hs := by exact (EJ (by rw [fJ]; omega))))
 refine rA ?_ (x := tM)
 refine vm ?_
 refine vG ?_
 refine rS ?_
 refine sO [(0, _), (2, _), (3, _), (4, _), (5, _), (6, _), (7, _), (8, _)] [(2, _), (5, _), (7, (25, [val _, val _, sl _ _, sl _ _]))] ?_
 refine ce ck ?_
 refine pY ?_
 refine dA 3 ?_ (x := lE [val _] bP)
 refine dA 7 ?_ (x := cL [(false, [val _])] [(false, [val _])] gx (hs := by exact (gy (by omega))))
 refine dA 0 ?_ (x := fM (ms := [val _, val _, sl _ _, sl _ _]) (qs := [val _, val _, sl .v _, sl .v _]) (by decide) du (fun h => nomatch h) (by exact nl rfl) (by exact rfl) (by exact (aO (aO (cG (cG ao.nil))))) (by exact lq))
 refine dA 31 ?_ (x := cK (qs := [(false, [val _]), (false, [val _]), (true, [val _, val _, sl _ _, sl _ _])]) (cs := [val _, val _, val _, sl _ _, sl _ _, val _, val _, val _, val _, sl _ _, val _, val _, val _]) (by decide) hE hH mg (by exact rfl) (by exact (aI (aC rfl) (aI (by exact tI) (aI (by exact tI) tI)))) rfl (by exact rfl))
 refine dA 63 ?_ (x := bv (ag := true) (vs := [val _, val _, val _, sl _ _, sl _ _, val _, val _, val _, val _, sl _ _, val _, val _, val _]) dw (by exact tI) (by exact rfl) (by exact nl rfl))
 refine iq ?_
 refine sO [(0, _), (2, _), (3, _), (4, _), (5, _), (6, _), (7, _), (8, _)] [(2, _), (5, (31, [val _, val _, val _, sl _ _, sl _ _, val _, val _, val _, val _, sl _ _, val _, val _, val _])), (7, (25, [val _, val _, sl _ _, sl _ _]))] ?_
 refine eD (d := 5) (by exact rfl) (show _ = [val (vI (aH s).Kind), val (vI (aH s).FY.Id), val (vI (aH s).FY.Gc), sl cC ((aH s).FY.FZ.map aV), sl aM ((aH s).FY.Out.map ap), val (vI (aH s).Limit), val (vI (aH s).Id), val (vI (aH s).Ga.Kind), val (vI (aH s).Ga.Row.Id), sl aM ((aH s).Ga.Row.Values.map ap), val (vI (aH s).Ga.Field), val (vI (aH s).Ga.Value), val (vI (aH s).Steps)] from by rw [hr] <;> rfl) ?_
 refine sG [0, 2, 3, 4, 5, 6, 7, 8] [2, 5, 7] ?_
 refine fv ?_
 refine cx 86 (fun gb sgb => ?_) (fun gb sgb => ?_)
 refine lv ?_
 refine bY ?_
 exact uW
 refine rB gb ?_ (x := lD [val _, val _, val _, sl .v _, sl .v _, val _, val _, val _, val _, sl .v _, val _, val _, val _] dw)
 refine rB gb ?_ (x := cL [(true, [val _, val _, val _, sl _ _, sl _ _, val _, val _, val _, val _, sl _ _, val _, val _, val _])] [(true, [val _, val _, val _, sl .v _, sl .v _, val _, val _, val _, val _, sl .v _, val _, val _, val _])] ru (hs := by exact (rN (x := aH s))))
 refine lz ?_
 refine sc ?_ ?_ <;> intro hbb
 exact uW
 have hys := rn (s := s) (by first | assumption | omega | (simp_all; done) | (simp_all; omega)) (by first | assumption | omega | (simp_all; done) | (simp_all; omega))
 refine aK ?_
 refine sS [0, 2, 3, 4, 5, 6, 7, 8] [2, 5, 7] ?_
 exact kY
 have hc0 : ¬ (2 < (aa 32 s).length ∧ (aa 32 s).getD 0 [] = [97, 100, 109, 105, 116]) := by first | (simp_all; done) | (constructor <;> first | omega | (simp_all; done)) | (rintro ⟨a_, b_⟩; first | omega | (simp_all; done) | (simp_all; omega))
 refine gN ?_
 refine ft ?_
 refine cx 58 (fun gb sgb => ?_) (fun gb sgb => ?_)
 have h0w : 0 < (aa 32 s).length := by have := gb; (try simp at this); omega
 have sgb := gb
 try simp only [qq] at sgb
 refine vR ?_
 refine rB gb ?_ (x := lE [val _] bP)
 refine rB gb ?_ (x := ig)
 refine rA ?_ (x := aG gb)
 refine rS ?_
 refine sc ?_ ?_ <;> intro hbb
 have hc1 : ((aa 32 s).length = 2 ∧ (aa 32 s).getD 0 [] = [99, 97, 110, 99, 101, 108]) := by first | (simp_all; done) | (constructor <;> first | omega | (simp_all; done)) | (rintro ⟨a_, b_⟩; first | omega | (simp_all; done) | (simp_all; omega))
 have hr := xU hc0 hc1
 have h1w : 1 < (aa 32 s).length := by omega
 refine jn ?_
 refine le ?_
 refine fW ?_
 refine lb ?_
 refine kh ?_
 refine cx 86 (fun gc sgc => ?_) (fun gc sgc => ?_)
 exact uX
 refine vl ?_
 refine rB gc ?_ (x := sM)
 refine qH ?_
 exact uY
 have hc1 : ¬ ((aa 32 s).length = 2 ∧ (aa 32 s).getD 0 [] = [99, 97, 110, 99, 101, 108]) := by first | (simp_all; done) | (constructor <;> first | omega | (simp_all; done)) | (rintro ⟨a_, b_⟩; first | omega | (simp_all; done) | (simp_all; omega))
 refine gN ?_
 refine ft ?_
 refine cx 73 (fun gc sgc => ?_) (fun gc sgc => ?_)
 have h0w : 0 < (aa 32 s).length := by have := gc; (try simp at this); omega
 have sgc := gc
 try simp only [qq] at sgc
 refine pW ?_
 refine qB ?_
 refine kp ?_
 refine sc ?_ ?_ <;> intro hbc
 have hc2 : ((aa 32 s).length = 2 ∧ (aa 32 s).getD 0 [] = [115, 116, 101, 112]) := by first | (simp_all; done) | (constructor <;> first | omega | (simp_all; done)) | (rintro ⟨a_, b_⟩; first | omega | (simp_all; done) | (simp_all; omega))
 have hr := rr hc0 hc1 hc2
 have h1w : 1 < (aa 32 s).length := by omega
 refine jn ?_
 refine le ?_
 refine fW ?_
 refine lb ?_
 refine kh ?_
 refine cx 86 (fun gd sgd => ?_) (fun gd sgd => ?_)
 exact pE
 refine js ?_
 refine sc ?_ ?_ <;> intro hbd
 exact kZ
 exact pD
 have hc2 : ¬ ((aa 32 s).length = 2 ∧ (aa 32 s).getD 0 [] = [115, 116, 101, 112]) := by first | (simp_all; done) | (constructor <;> first | omega | (simp_all; done)) | (rintro ⟨a_, b_⟩; first | omega | (simp_all; done) | (simp_all; omega))
 have hr := oy hc0 hc1 hc2
 refine nz ?_
 refine nb ?_
 refine ld ?_
 refine jZ ?_
 refine rS ?_
 refine na ?_
 refine mX ?_
 refine fW ?_
 refine nn ?_
 refine fv ?_
 refine cx 86 (fun gd sgd => ?_) (fun gd sgd => ?_)
 exact mV
 refine js ?_
 refine sc ?_ ?_ <;> intro hbd
 exact la
 exact mW
 refine fq ?_
 refine fw ?_
 exact uZ
 refine fS ?_
 refine fw ?_
 exact vb
 refine fp ?_
 refine fw ?_
 have hc0 : ¬ (2 < (aa 32 s).length ∧ (aa 32 s).getD 0 [] = [97, 100, 109, 105, 116]) := by first | (simp_all; done) | (constructor <;> first | omega | (simp_all; done)) | (rintro ⟨a_, b_⟩; first | omega | (simp_all; done) | (simp_all; omega))
 refine gN ?_
 refine ft ?_
 refine cx 58 (fun gb sgb => ?_) (fun gb sgb => ?_)
 have h0w : 0 < (aa 32 s).length := by have := gb; (try simp at this); omega
 have sgb := gb
 try simp only [qq] at sgb
 refine vR ?_
 refine rB gb ?_ (x := lE [val _] bP)
 refine rB gb ?_ (x := ig)
 refine rA ?_ (x := aG gb)
 refine rS ?_
 refine sc ?_ ?_ <;> intro hba
 have hc1 : ((aa 32 s).length = 2 ∧ (aa 32 s).getD 0 [] = [99, 97, 110, 99, 101, 108]) := by first | (simp_all; done) | (constructor <;> first | omega | (simp_all; done)) | (rintro ⟨a_, b_⟩; first | omega | (simp_all; done) | (simp_all; omega))
 have hr := xU hc0 hc1
 have h1w : 1 < (aa 32 s).length := by omega
 refine jn ?_
 refine le ?_
 refine fW ?_
 refine lb ?_
 refine kh ?_
 refine cx 86 (fun gc sgc => ?_) (fun gc sgc => ?_)
 exact uX
 refine vl ?_
 refine rB gc ?_ (x := sM)
 refine qH ?_
 exact vc
 exact vb
 refine fS ?_
 refine fw ?_
 have hc1 : ¬ ((aa 32 s).length = 2 ∧ (aa 32 s).getD 0 [] = [99, 97, 110, 99, 101, 108]) := by first | (simp_all; done) | (constructor <;> first | omega | (simp_all; done)) | (rintro ⟨a_, b_⟩; first | omega | (simp_all; done) | (simp_all; omega))
 refine gN ?_
 refine ft ?_
 refine cx 73 (fun gc sgc => ?_) (fun gc sgc => ?_)
 have h0w : 0 < (aa 32 s).length := by have := gc; (try simp at this); omega
 have sgc := gc
 try simp only [qq] at sgc
 refine pW ?_
 refine qB ?_
 refine kp ?_
 refine sc ?_ ?_ <;> intro hba
 have hc2 : ((aa 32 s).length = 2 ∧ (aa 32 s).getD 0 [] = [115, 116, 101, 112]) := by first | (simp_all; done) | (constructor <;> first | omega | (simp_all; done)) | (rintro ⟨a_, b_⟩; first | omega | (simp_all; done) | (simp_all; omega))
 have hr := rr hc0 hc1 hc2
 have h1w : 1 < (aa 32 s).length := by omega
 refine jn ?_
 refine le ?_
 refine fW ?_
 refine lb ?_
 refine kh ?_
 refine cx 86 (fun gd sgd => ?_) (fun gd sgd => ?_)
 exact pE
 refine js ?_
 exact vc
 exact va
 refine fq ?_
 refine fw ?_
 have hc2 : ¬ ((aa 32 s).length = 2 ∧ (aa 32 s).getD 0 [] = [115, 116, 101, 112]) := by first | (simp_all; done) | (constructor <;> first | omega | (simp_all; done)) | (rintro ⟨a_, b_⟩; first | omega | (simp_all; done) | (simp_all; omega))
 have hr := oy hc0 hc1 hc2
 refine nz ?_
 refine nb ?_
 refine ld ?_
 refine jZ ?_
 refine rS ?_
 refine na ?_
 refine mX ?_
 refine fW ?_
 refine nn ?_
 refine fv ?_
 refine cx 86 (fun gd sgd => ?_) (fun gd sgd => ?_)
 exact mV
 refine js ?_
 refine sc ?_ ?_ <;> intro hba
 exact la
 exact mW
end Go.Proofs.YtmekkgdboplbjaaGreatDoor
