/- What functions of the program compute. No condition. -/
import Derived.Test.YtmekkgdboplbjaaGreatDoorCH0
import Derived.Test.YtmekkgdboplbjaaGreatDoorCI0
import Derived.Test.YtmekkgdboplbjaaGreatDoorCJ0
import Derived.Test.YtmekkgdboplbjaaGreatDoorCK0
import Derived.Test.YtmekkgdboplbjaaGreatDoorCY0
set_option linter.all false
namespace Go.Proofs.YtmekkgdboplbjaaGreatDoor
open Go Go.RowKit M PV
set_option maxRecDepth 10000
attribute [local irreducible] PV.Lcl PV.LclR RV.Lcl
set_option maxHeartbeats 8000000
def yz : Tryz.prog.underlying 4 = some .bool := by kernel_rfl
def EP : Tryz.prog.underlying 9 = some .string := by kernel_rfl
def EQ {aS : ab}  : bI Tryz.prog gl 3 [(false, [val (.string (B aS))])] (ar [(false, [val (.bool true)])]) := by
 refine AB (largs := fun L => [(false, [val (.string (B aS))])]) (rs := [(false, [val (.bool true)])]) Tryz.func3 rfl (nl rfl) (fun L => by exact (aI (aI rfl (bR.cons PV.tob_refl bR.nil)) tI)) (fun L => by exact (cD (ak.cons (bor_val _) ak.nil) cN)) ?_
 intro w0 Fz0 hG_ hz_
 refine sR ?_
 refine cW ?_
 refine sS [0, 2] [] ?_
 refine rM ?_
 refine rA ?_ (x := fQ EP)
 refine rA ?_ (x := fl)
 refine sc ?_ ?_ <;> intro hba
 refine sS [0, 2] [] ?_
 exact vd
 have hpl0 := hba
 have hw0 := Dp aS
 refine aK ?_
 refine sS [0, 2] [] ?_
 refine rM ?_
 refine rA ?_ (x := cL [(false, [val _])] [(false, [val _])] DJ (hs := by exact (EO (by omega))))
 refine rA ?_ (x := tM)
 refine pH ?_
 refine pQ ?_
 refine bZ ?_
 refine sQ [0, 2, 3, 4] [3] ?_
 refine wD hG_ hz_ ?_
 refine sG [0, 2, 3, 4, 7000] [3] ?_
 refine rM ?_
 refine wn ?_
 refine pH ?_
 refine pQ ?_
 refine bZ ?_
 refine aT ?_
 refine sO [(0, _), (2, _), (3, _), (4, _), (5, _), (6, _)] [(3, _), (5, (31, [val _, val _, val _, sl _ _, sl _ _, val _, val _, val _, val _, sl _ _, val _, val _, val _]))] ?_
 refine wk ?_
 refine vg ?_
 refine fu ?_
 refine cx 28 (fun ga sga => ?_) (fun ga sga => ?_)
 ·first | (simp [fx] at ga; done) | (simp only [decide_eq_true_eq] at ga; omega)
 refine rB ga ?_ (x := sM)
 refine rB ga ?_ (x := sM)
 refine rB ga ?_ (x := sV (by decide) yz (by exact tI) (by exact tI))
 refine rA ?_ (x := an ga)
 refine sc ?_ ?_ <;> intro hbb
 ·first | exact absurd rfl hbb | (simp [fx] at hbb; done) | omega
 refine aK ?_
 refine sS [0, 2, 3, 4, 5, 6] [3, 5] ?_
 refine cW ?_
 refine sP [0, 2, 3, 4, 5, 6, 7] [3, 5] ?_
 refine zF (d := 5) (A := []) (ms := [val _, val _, val _, sl _ _, sl _ _, val _, val _, val _, val _, sl _ _, val _, val _, val _]) (B := []) (by exact rfl) fun us hus => ?_
 obtain ⟨u4_0, u4_1, u4_2, u4_3, u4_4, u4_5, u4_6, u4_7, u4_8, u4_9, u4_10, u4_11, u4_12, rfl⟩ := wF hus
 have hq5 := AR ((aJ aS).getD aZ) 1
 have hq6 := AV ((aJ aS).getD aZ) 1
 refine sO [(0, _), (2, _), (3, _), (4, _), (5, _), (6, _), (7, _)] [(3, _), (5, (31, [nv _ (val _), nv _ (val _), nv _ (val _), nv _ (sl _ _), nv _ (sl _ _), nv _ (val _), nv _ (val _), nv _ (val _), nv _ (val _), nv _ (sl _ _), nv _ (val _), nv _ (val _), nv _ (val _)]))] ?_
 refine iQ ?_
 refine bS (by exact ⟨rfl, ⟨⟩⟩) (by exact ⟨rfl, ⟨⟩⟩) (aN.of rfl (gE (qs := [val _, val _, val _, val _, val _, val _, val _, val _, val _, val _, val _, val _, val _]) (by decide) dw (fun h => nomatch h) (by exact nl rfl) (by exact (ao.cons bT (ao.cons bT (ao.cons bT (ao.cons bT (ao.cons bT (ao.cons bT (ao.cons bT (ao.cons bT (ao.cons bT (ao.cons bT (ao.cons bT (ao.cons bT (ao.cons bT ao.nil)))))))))))))) (by exact lq))) br ?_
 refine bS (by exact ⟨rfl, ⟨⟩⟩) (by exact tI) (aN.of rfl (cu (.inl rfl) (by decide) (by exact Cp.sc))) br ?_
 refine iR (l := [(0, RV.sv false [val _]), (2, RV.sv false [val _]), (3, RV.ptr 3 0), (4, RV.sv false [val _]), (5, RV.ptr 5 0), (6, RV.sv false [val _]), (7, RV.sv false [val _]), (33, RV.sv true [val _, val _, val _, val _, val _, val _, val _, val _, val _, val _, val _, val _, val _]), (34, RV.sv false [val _])]) (b := [(3, (31, [val _, val _, val _, sl _ _, sl _ _, val _, val _, val _, val _, sl _ _, val _, val _, val _])), (5, (31, [nv _ (val _), nv _ (val _), nv _ (val _), nv _ (sl _ _), nv _ (sl _ _), nv _ (val _), nv _ (val _), nv _ (val _), nv _ (val _), nv _ (sl _ _), nv _ (val _), nv _ (val _), nv _ (val _)]))]) (by exact ⟨rfl, rfl, rfl, rfl, rfl, rfl, rfl, rfl, rfl, ⟨⟩⟩) (by exact ⟨rfl, rfl, ⟨⟩⟩) ?_
 refine iS (bx := 5) (L := (Lw w0.heap.size)) (A := []) (ms := [nv _ (val _), nv _ (val _), nv _ (val _), nv _ (sl _ _), nv _ (sl _ _), nv _ (val _), nv _ (val _), nv _ (val _), nv _ (val _), nv _ (sl _ _), nv _ (val _), nv _ (val _), nv _ (val _)]) (B := []) (qr := [(false, [val _])]) (as_ := [(false, [val _])]) (by decide) Ds rfl (by exact rfl) (by exact (Nm.val (Nm.val (Nm.val (Nm.val (Nm.val (Nm.val (Nm.val (Nm.val (Nm.val (Nm.val (Nm.val (Nm.val (Nm.val Nm.nil)))))))))))))) (by exact ⟨rfl, ⟨⟩⟩) (by exact (aI (by exact tI) tI)) (by exact aI (aI rfl (aO ao.nil)) tI) (by exact rfl) (by exact (Nm.nv (Nm.nv (Nm.nv (Nm.nv (Nm.nv (Nm.nv (Nm.nv (Nm.nv (Nm.nv (Nm.nv (Nm.nv (Nm.nv (Nm.nv Nm.nil)))))))))))))) (by exact (ax.nv (ax.nv (ax.nv (ax.nv (ax.nv (ax.nv (ax.nv (ax.nv (ax.nv (ax.nv (ax.nv (ax.nv (ax.nv ax.nil)))))))))))))) (by exact DX (x := ((aJ aS).getD aZ)) (by omega) (by omega)) (by exact (be.nv (be.nv (be.nv (be.nv (be.nv (be.nv (be.nv (be.nv (be.nv (be.nv (be.nv (be.nv (be.nv be.nil)))))))))))))) (fun x hx => hx) (by exact lc) (by exact lq) (by exact aB.nil) (by exact aB.nil) rfl ?_
 refine bS (by exact ⟨rfl, ⟨⟩⟩) (by exact tI) (aN.of rfl (cu (.inr rfl) (by decide) (by exact Cp.sc))) br ?_
 refine iP ?_
 refine sS [0, 2, 3, 4, 5, 6, 7] [3, 5] ?_
 refine rK ?_
 refine sS [0, 2, 3, 4, 5, 6, 7, 8] [3, 5] ?_
 refine vn ?_
 refine bZ ?_
 refine sS [0, 2, 3, 4, 5, 6, 7, 8] [3, 5] ?_
 refine lH ?_
 refine sc ?_ ?_ <;> intro hbc
 ·first | exact absurd rfl hbc | (simp [fx] at hbc; done) | omega
 refine cg ?_
 refine sS [0, 2, 3, 4, 5, 6, 7, 8] [3, 5] ?_
 refine bU ?_
 refine rA ?_ (x := eQ)
 refine sc ?_ ?_ <;> intro hbd
 ·first | exact absurd rfl hbd | (simp [fx] at hbd; done) | omega
 refine cg ?_
 refine sP [0, 2, 3, 4, 5, 6, 7, 8] [3, 5] ?_
 refine wD hG_ hz_ ?_
 refine sG [0, 2, 3, 4, 5, 6, 7, 8, 7000] [3, 5] ?_
 refine rM ?_
 refine wn ?_
 refine pH ?_
 refine pQ ?_
 refine bZ ?_
 refine aT ?_
 refine sO [(0, _), (2, _), (3, _), (4, _), (5, _), (6, _), (7, _), (8, _), (9, _), (10, _)] [(3, _), (5, _), (9, (31, [val _, val _, val _, sl _ _, sl _ _, val _, val _, val _, val _, sl _ _, val _, val _, val _]))] ?_
 refine wk ?_
 refine vg ?_
 refine fu ?_
 refine cx 53 (fun gb sgb => ?_) (fun gb sgb => ?_)
 ·first | (simp [fx] at gb; done) | (simp only [decide_eq_true_eq] at gb; omega)
 refine rB gb ?_ (x := sM)
 refine rB gb ?_ (x := sM)
 refine rB gb ?_ (x := sV (by decide) yz (by exact tI) (by exact tI))
 refine rA ?_ (x := an gb)
 refine sc ?_ ?_ <;> intro hbe
 ·first | exact absurd rfl hbe | (simp [fx] at hbe; done) | omega
 refine aK ?_
 refine sS [0, 2, 3, 4, 5, 6, 7, 8, 9, 10] [3, 5, 9] ?_
 refine rK ?_
 refine sS [0, 2, 3, 4, 5, 6, 7, 8, 9, 10] [3, 5, 9] ?_
 refine vn ?_
 refine bZ ?_
 refine sS [0, 2, 3, 4, 5, 6, 7, 8, 9, 10] [3, 5, 9] ?_
 refine lH ?_
 refine sc ?_ ?_ <;> intro hbf
 ·first | exact absurd rfl hbf | (simp [fx] at hbf; done) | omega
 refine cg ?_
 refine sS [0, 2, 3, 4, 5, 6, 7, 8, 9, 10] [3, 5, 9] ?_
 refine bU ?_
 refine rA ?_ (x := eQ)
 refine sc ?_ ?_ <;> intro hbg
 ·first | exact absurd rfl hbg | (simp [fx] at hbg; done) | omega
 refine aK ?_
 refine sS [0, 2, 3, 4, 5, 6, 7, 8, 9, 10] [3, 5, 9] ?_
 exact vd
end Go.Proofs.YtmekkgdboplbjaaGreatDoor
