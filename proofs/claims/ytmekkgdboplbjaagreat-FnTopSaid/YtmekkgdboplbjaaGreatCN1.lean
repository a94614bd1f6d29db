/- What functions of the program compute. No condition. -/
import Derived.Test.YtmekkgdboplbjaaGreatCZ0
import Derived.Test.YtmekkgdboplbjaaGreatCH1
import Derived.Test.YtmekkgdboplbjaaGreatCI1
import Derived.Test.YtmekkgdboplbjaaGreatCL1
import Derived.Test.YtmekkgdboplbjaaGreatCM1
set_option linter.all false
namespace Go.Proofs.YtmekkgdboplbjaaGreat
open Go Go.RowKit M PV
set_option maxRecDepth 10000
attribute [local irreducible] PV.Lcl PV.LclR RV.Lcl
set_option maxHeartbeats 8000000
attribute [local irreducible] au jc
def aep : Tryz.prog.underlying 4 = some .bool := by kernel_rfl
def aeq {code : List Int}  : aN Tryz.prog 4 [(false, [sl .v (code.map re)])] (aJ [(false, [val (.bool true)])]) := by
 refine sF Tryz.func4 fun h0 w0 Fz0 => ?_
 refine sj 0 fun hl0 => ?_
 refine sZ ?_
 refine rA ?_ (x := vM false [sl .v _])
 refine rA ?_ (x := cL [(false, [sl _ _])] [(false, [sl .v _])] Zm (hs := by exact aeo))
 refine sc ?_ ?_ <;> intro hba
 refine sS [0, 2] [] ?_
 refine rK ?_
 exact xN
 have hbig : code.length ≤ 1048576 := by have hh := hba; simp at hh; omega
 have hb : code.length ≤ 9223372036854775807 := by omega
 have hb2 : code.length ≤ 4611686018427387904 := by omega
 have hwe := abK (ax code hb)
 have hwl := abL (ax code hb)
 have hll := Gv (ax code hb)
 have hlp := Gw (ax code hb)
 have hwu := hwl
 simp only [zy] at hwu
 refine bb ?_
 refine sS [0, 2] [] ?_
 refine rA ?_ (x := vM false [sl .v _])
 refine rA ?_ (x := cL [(false, [sl _ _])] [(false, [sl .v _])] Yx (hs := by exact (aen (by omega) (by omega))))
 refine rA ?_ (x := tM)
 refine rA ?_ (x := xn (cs := [sl _ _, val _, val _, sl _ _, sl _ _, sl _ _, sl _ _, val _]) (qs := [sl .v _, val _, val _, sl .v _, sl .v _, sl .v _, sl .v _, val _]) (by decide) (by exact rfl) (by exact (aB (ak (ak (aB (aB (aB (aB (ak ao.nil))))))))) (by exact lq))
 refine rA ?_ (x := xn (cs := [sl _ _]) (qs := [sl .v _]) (by decide) (by exact rfl) (by exact (aB ao.nil)) (by exact (aj.cons (bor_sl _) aj.nil)))
 refine ob ?_
 refine rA ?_ (x := tA)
 refine sT [0, 2, 3, 4] [3] ?_
 refine uY ?_
 refine sS [0, 2, 3, 4, 5] [3] ?_
 refine rA ?_ (x := bP (qs := []) (by decide) Ag Fh (by decide) rfl rfl rfl rfl rfl (by exact nl rfl) (by exact tI) rfl)
 refine rA ?_ (x := tA)
 refine dJ ?_
 refine sP [0, 2, 3, 4, 5, 6] [3] ?_
 refine IC (d := 3) [sl .v _, val _, val _, sl .v _, sl .v _, sl .v _, sl .v _, val _] (by exact rfl) (by exact (ao.cons (PV.to_map (fun _ => (ao.cons (PV.to_map (fun _ => (ak (ao.cons (PV.to_map (fun _ => (ak ao.nil))) (ak (ak ao.nil)))))) ao.nil))) (ak (ak (ao.cons (PV.to_map (fun _ => (ak ao.nil))) (ao.cons (PV.to_map (fun _ => (ak (ak (ao.cons (PV.to_map (fun _ => (ak (ak (ak ao.nil))))) (ao.cons (PV.to_map (fun _ => (ak ao.nil))) (ak (ao.cons (PV.to_map (fun _ => (ak ao.nil))) (ak (ak (ak (ao.cons (PV.to_map (fun _ => (ak (ao.cons (PV.to_map (fun _ => (ak ao.nil))) ao.nil)))) ao.nil)))))))))))) (ao.cons (PV.to_map (fun _ => (ak (ak (ao.cons (PV.to_map (fun _ => (ak (ak (ak ao.nil))))) (ao.cons (PV.to_map (fun _ => (ak ao.nil))) (ak (ak (ao.cons (PV.to_map (fun _ => (ak (ao.cons (PV.to_map (fun _ => (ak ao.nil))) ao.nil)))) ao.nil))))))))) (ao.cons (PV.to_map (fun _ => (ak (ak (ao.cons (PV.to_map (fun _ => (ak ao.nil))) (ao.cons (PV.to_map (fun _ => (ak ao.nil))) (ao.cons (PV.to_map (fun _ => (ak ao.nil))) ao.nil))))))) (ak ao.nil))))))))) (by exact lq) ?_
 refine sH [0, 2, 3, 4, 5, 6] [3] ?_
 refine ca ?_
 refine sP [0, 2, 3, 4, 5, 6, 7] [3] ?_
 refine sL [0, 3, 4] [] (fun m : Nat => m ≤ (aQ (ax code hb)).length) (fun m : Nat => [(5, RV.slc ab ((aY (aZ (ax code hb)) (aQ (ax code hb)) m).ids.map am)), (6, RV.slc (.own 59 1) ((aY (aZ (ax code hb)) (aQ (ax code hb)) m).want.map (Qc aE .v))), (7, RV.int (m : Int))]) (fun m : Nat => [(3, (32, [sl .v ((aY (aZ (ax code hb)) (aQ (ax code hb)) m).e.Store.aey.map (aG .v .v)), val (vI (aY (aZ (ax code hb)) (aQ (ax code hb)) m).e.Store.Now), val (vI (aY (aZ (ax code hb)) (aQ (ax code hb)) m).e.aeD), sl .v ((aY (aZ (ax code hb)) (aQ (ax code hb)) m).e.Order.map am), sl .v ((aY (aZ (ax code hb)) (aQ (ax code hb)) m).e.aez.map (aT .v .v .v .v .v)), sl .v ((aY (aZ (ax code hb)) (aQ (ax code hb)) m).e.Done.map (bn .v .v .v .v)), sl .v ((aY (aZ (ax code hb)) (aQ (ax code hb)) m).e.aeL.map (bl .v .v .v)), val (vI (aY (aZ (ax code hb)) (aQ (ax code hb)) m).e.Steps)]))]) (fun m : Nat => (aQ (ax code hb)).length - m) 0 (by omega) (by exact aI (by exact rfl) (aI (by exact rfl) (aI (by exact rfl) tI))) (by exact aI (by exact rfl) tI) ?_
 rintro m hm
 have hti := wY (c := (ax code hb)) m hm
 have hbe := hti.b
 have hew := GG (e := (aZ (ax code hb))) (l := (aQ (ax code hb))) m hm
 have htl_ := GH (e := (aZ (ax code hb))) (l := (aQ (ax code hb))) m hm
 have hsw := acp (aY (aZ (ax code hb)) (aQ (ax code hb)) m).e
 have hrw := acm (aY (aZ (ax code hb)) (aQ (ax code hb)) m).e.Store (aY (aZ (ax code hb)) (aQ (ax code hb)) m).e.Store.Now
 refine oq ?_
 refine rA ?_ (x := lN pM)
 refine rA ?_ (x := dq)
 refine sc ?_ ?_ <;> intro hbb
 have hlt : m < (aQ (ax code hb)).length := by omega
 have hwm := di (f := lr) hlt
 have hxe := TG (e := (aZ (ax code hb))) hlt
 have hnw := acj (c := (ax code hb)) hlt
 have hdl : (aY (aZ (ax code hb)) (aQ (ax code hb)) m).e.Done.length ≤ (aY (aZ (ax code hb)) (aQ (ax code hb)) (m + 1)).e.Done.length := by { obtain ⟨l_, h_, _⟩ := hnw; rw [h_, aM]; omega }
 have hew1 := GG (e := (aZ (ax code hb))) (l := (aQ (ax code hb))) (m + 1) hlt
 have htl1 := GH (e := (aZ (ax code hb))) (l := (aQ (ax code hb))) (m + 1) hlt
 refine dh ?_
 refine sQ [0, 3, 4, 5, 6, 7] [3] ?_
 refine xz (c := 5) (AI := [(9, ⟨[], [], [(8, some (RV.ptr 8 0))], [(8, some (32, [sl bz [], val (.int .i64 0), val (.int .i64 0), sl ab [], sl ce [], sl bT [], sl bY [], val (.int .i64 0)]))], some 8⟩)]) cG rfl rfl rfl rfl (by kernel_rfl) (fun j L h o ho => by have h := hI h; simp only [iq, List.not_mem_nil, or_false, Prod.mk.injEq] at h; obtain ⟨rfl, rfl⟩ := h; (· cases (show some ⟨some 8, .alloc 32, _, _, _, none⟩ = some o from ho); apply bX.of rfl; exact cr (d := 8) (by decide) kI kK)) (fun j L h d hd => by have h := hI h; simp only [iq, List.not_mem_nil, or_false, Prod.mk.injEq] at h; obtain ⟨rfl, rfl⟩ := h; (· cases (show some _ = some d from hd); exact cu.of_ rfl)) ?_
 refine MH ?_
 refine dX 0 ?_ (x := (iL (.inl rfl) (by decide) (by exact Cp.sc)))
 refine Mz ?_
 refine xA (G := 2000) (qs := [(true, [sl _ _, val _, val _, sl _ _, sl _ _, sl _ _, sl _ _, val _]), (true, [val _, val _, val _, sl _ _, sl _ _, val _, val _, val _, val _, sl _ _, val _, val _, val _])]) (as_ := [(true, [sl .v _, val _, val _, sl .v _, sl .v _, sl .v _, sl .v _, val _]), (true, [val _, val _, val _, sl .v _, sl .v _, val _, val _, val _, val _, sl .v _, val _, val _, val _])]) (by decide) Yz (by exact ⟨rfl, rfl, ⟨⟩⟩) (by exact (aI (by exact tI) (aI (by exact tI) tI))) (by exact (aI (aI rfl (aB (ak (ak (aB (aB (aB (aB (ak ao.nil))))))))) (aI (aI rfl (ak (ak (ak (aB (aB (ak (ak (ak (ak (aB (ak (ak (ak ao.nil)))))))))))))) tI))) (by exact (adY (e := (aY (aZ (ax code hb)) (aQ (ax code hb)) m).e) (x := (aQ (ax code hb))[m]) (by omega) (by omega))) (by kernel_rfl) (by kernel_rfl) fun uss hU0 => ?_
 obtain ⟨us0, r0, rfl, hl0, hR0, hU1⟩ := gE.cons hU0
 obtain ⟨u3_0_0, u3_0_1, u3_0_2, u3_0_3, u3_0_4, u3_0_5, u3_0_6, u3_0_7, rfl⟩ := Ej hl0
 obtain rfl := mr hR0 (j := 1) rfl rfl
 obtain rfl := mr hR0 (j := 2) rfl rfl
 obtain rfl := mr hR0 (j := 7) rfl rfl
 obtain ⟨us1, r1, rfl, hl1, hR1, hU2⟩ := gE.cons hU1
 obtain ⟨u3_1_0, rfl⟩ := wm hl1
 obtain rfl := mr hR1 (j := 0) rfl rfl
 obtain rfl := gE.nil hU2
 clear hR0 hU0 hR1 hU1 hU2
 refine NK ?_
 refine Nv ?_
 refine uG (d := 8) (G := 2000) (by exact rfl) (by exact (Nm.val (Nm.val (Nm.val (Nm.val (Nm.val (Nm.val (Nm.val (Nm.val Nm.nil))))))))) (by exact rfl) ?_
 refine sd (s := 9) (G := 2001) (by exact rfl) (by exact (Nm.val Nm.nil)) rfl (by decide) (by exact rfl) ?_
 refine be ?_
 refine sO [(0, _), (3, _), (4, _), (5, _), (6, _), (7, _), (8, _), (9, _)] [(3, _), (8, (32, [sl _ _, val _, val _, sl _ _, sl _ _, sl _ _, sl _ _, val _]))] ?_
 refine xz (c := 5) (AI := [(9, ⟨[], [], [(10, some (RV.ptr 10 0))], [(10, some (32, [sl bz [], val (.int .i64 0), val (.int .i64 0), sl ab [], sl ce [], sl bT [], sl bY [], val (.int .i64 0)]))], some 10⟩)]) cG rfl rfl rfl rfl (by kernel_rfl) (fun j L h o ho => by have h := hI h; simp only [iq, List.not_mem_nil, or_false, Prod.mk.injEq] at h; obtain ⟨rfl, rfl⟩ := h; (· cases (show some ⟨some 10, .alloc 32, _, _, _, none⟩ = some o from ho); apply bX.of rfl; exact cr (d := 10) (by decide) kI kK)) (fun j L h d hd => by have h := hI h; simp only [iq, List.not_mem_nil, or_false, Prod.mk.injEq] at h; obtain ⟨rfl, rfl⟩ := h; (· cases (show some _ = some d from hd); exact cu.of_ rfl)) ?_
 refine MH ?_
 refine dX 0 ?_ (x := (iL (.inl rfl) (by decide) (by exact Cp.sc)))
 refine Mz ?_
 refine xA (G := 2000) (qs := [(true, [sl _ _, val _, val _, sl _ _, sl _ _, sl _ _, sl _ _, val _]), (true, [val _, val _, val _, sl _ _, sl _ _, val _, val _, val _, val _, sl _ _, val _, val _, val _])]) (as_ := [(true, [sl .v _, val _, val _, sl .v _, sl .v _, sl .v _, sl .v _, val _]), (true, [val _, val _, val _, sl .v _, sl .v _, val _, val _, val _, val _, sl .v _, val _, val _, val _])]) (by decide) YG (by exact ⟨rfl, rfl, ⟨⟩⟩) (by exact (aI (by exact tI) (aI (by exact tI) tI))) (by exact (aI (aI rfl (aB (ak (ak (aB (aB (aB (aB (ak ao.nil))))))))) (aI (aI rfl (ak (ak (ak (aB (aB (ak (ak (ak (ak (aB (ak (ak (ak ao.nil)))))))))))))) tI))) (by exact (adZ (e := (aY (aZ (ax code hb)) (aQ (ax code hb)) m).e) (x := (aQ (ax code hb))[m]) (by omega) (by omega))) (by kernel_rfl) (by kernel_rfl) fun uss hU0 => ?_
 obtain ⟨us0, r0, rfl, hl0, hR0, hU1⟩ := gE.cons hU0
 obtain ⟨u4_0_0, u4_0_1, u4_0_2, u4_0_3, u4_0_4, u4_0_5, u4_0_6, u4_0_7, rfl⟩ := Ej hl0
 obtain rfl := mr hR0 (j := 1) rfl rfl
 obtain rfl := mr hR0 (j := 2) rfl rfl
 obtain rfl := mr hR0 (j := 7) rfl rfl
 obtain ⟨us1, r1, rfl, hl1, hR1, hU2⟩ := gE.cons hU1
 obtain ⟨u4_1_0, rfl⟩ := wm hl1
 obtain rfl := mr hR1 (j := 0) rfl rfl
 obtain rfl := gE.nil hU2
 clear hR0 hU0 hR1 hU1 hU2
 refine NK ?_
 refine Nv ?_
 refine uG (d := 10) (G := 2000) (by exact rfl) (by exact (Nm.val (Nm.val (Nm.val (Nm.val (Nm.val (Nm.val (Nm.val (Nm.val Nm.nil))))))))) (by exact rfl) ?_
 refine sd (s := 11) (G := 2001) (by exact rfl) (by exact (Nm.val Nm.nil)) rfl (by decide) (by exact rfl) ?_
 refine dJ ?_
 refine sO [(0, _), (3, _), (4, _), (5, _), (6, _), (7, _), (8, _), (9, _), (10, _), (11, _)] [(3, _), (8, _), (10, (32, [sl _ _, val _, val _, sl _ _, sl _ _, sl _ _, sl _ _, val _]))] ?_
 refine bd ?_
 refine jS ?_
 refine rA ?_ (x := Hr (by decide) aep (by exact tI) (by exact tI))
 refine rM ?_
 refine cx 58 (fun ga sga => ?_) (fun ga sga => ?_)
 exact absurd ga (by first | (simp; done) | (simp [lQ]; done))
 refine rB ga ?_ (x := lD [sl .v _, val _, val _, sl .v _, sl .v _, sl .v _, sl .v _, val _] bU)
 refine rB ga ?_ (x := lD [sl .v _, val _, val _, sl .v _, sl .v _, sl .v _, sl .v _, val _] bU)
 refine rB ga ?_ (x := cL [(true, [sl _ _, val _, val _, sl _ _, sl _ _, sl _ _, sl _ _, val _]), (true, [sl _ _, val _, val _, sl _ _, sl _ _, sl _ _, sl _ _, val _])] [(true, [sl .v _, val _, val _, sl .v _, sl .v _, sl .v _, sl .v _, val _]), (true, [sl .v _, val _, val _, sl .v _, sl .v _, sl .v _, sl .v _, val _])] XS (hs := by exact ad4))
 refine lO ?_
 refine sc ?_ ?_ <;> intro hbc
 exact absurd hbc (by first | (simp; done) | (simp [lQ]; done))
 refine eG ?_
 refine sS [0, 3, 4, 5, 6, 7, 8, 9, 10, 11] [3, 8, 10] ?_
 refine jS ?_
 refine cx 65 (fun gb sgb => ?_) (fun gb sgb => ?_)
 refine rB gb ?_ (x := vM false [sl .v _])
 refine rB gb ?_ (x := sM)
 refine rB gb ?_ (x := aU (by decide) pM (by exact tI) (by exact rfl) (by exact aW (by omega) rfl) (by exact rfl))
 refine rB gb ?_ (x := cd (by decide) Qo (by exact nl rfl))
 refine rB gb ?_ (x := lE [val _] az)
 refine rB gb ?_ (x := dQ)
 refine rA ?_ (x := aO gb)
 refine sc ?_ ?_ <;> intro hbd
 have hadm : jh (aY (aZ (ax code hb)) (aQ (ax code hb)) m).e (aQ (ax code hb))[m] = true := by unfold jh; first | (simp_all; done)
 obtain ⟨hi1, hi2⟩ := TF hlt hadm
 refine sS [0, 3, 4, 5, 6, 7, 8, 9, 10, 11] [3, 8, 10] ?_
 refine qS ?_
 refine rA ?_ (x := aU (by decide) pM (by exact tI) (by exact rfl) (by exact aW (by omega) rfl) (by exact rfl))
 refine rA ?_ (x := cd (by decide) Ey (by exact nl rfl))
 refine vr ?_
 refine ll ?_
 refine sP [0, 3, 4, 5, 6, 7, 8, 9, 10, 11] [3, 8, 10] ?_
 refine ta ?_
 refine eY ?_
 refine dA 6 ?_ (x := aU (by decide) pM (by exact tI) (by exact rfl) (by exact aW (by omega) rfl) (by exact rfl))
 refine dA 14 ?_ (x := cd (by decide) Ey (by exact nl rfl))
 refine dA 30 ?_ (x := lE [val _, val _, sl .v _, sl .v _] eQ)
 refine dA 0 ?_ (x := lF gG)
 refine dA 64 ?_ (x := lD [sl .v _, val _] cW)
 refine dA 0 ?_ (x := lF gG)
 refine dA 256 ?_ (x := lF fK)
 refine dA 768 ?_ (x := lD [val _] az)
 refine dA 1984 ?_ (x := cL [(true, [sl _ _, val _]), (false, [val _])] [(true, [sl .v _, val _]), (false, [val _])] YT (hs := by exact (ads (s := (aY (aZ (ax code hb)) (aQ (ax code hb)) m).e.Store) (t := (aY (aZ (ax code hb)) (aQ (ax code hb)) m).e.Store.Now) (by omega))))
 refine dA 4094 ?_ (x := cL [(true, [val _, val _, sl _ _, sl _ _]), (false, [sl _ _])] [(true, [val _, val _, sl .v _, sl .v _]), (false, [sl .v _])] YM (hs := by exact (adq (q := (aQ (ax code hb))[m].aeA) (l := qf (aY (aZ (ax code hb)) (aQ (ax code hb)) m).e.Store (aY (aZ (ax code hb)) (aQ (ax code hb)) m).e.Store.Now) (by omega))))
 refine dA 8190 ?_ (x := bP (qs := [(false, [sl _ _])]) (by decide) Ag Fh (by decide) rfl rfl rfl rfl rfl (by exact nl rfl) (by exact (aI (by exact tI) tI)) rfl)
 refine dA 16383 ?_ (x := en (by decide) Ag Fh rfl rfl (by decide) rfl (by simp only [aw, aM, List.length_cons, List.length_nil]; omega) (by simp only [aw, aM, List.length_cons, List.length_nil]; omega))
 refine dA 32767 ?_ (x := tA)
 exact Mp
 have hadm : jh (aY (aZ (ax code hb)) (aQ (ax code hb)) m).e (aQ (ax code hb))[m] = false := by unfold jh; first | (simp_all; done)
 obtain ⟨hi1, hi2⟩ := GF hlt hadm
 refine bb ?_
 exact Mp
 refine pz ?_
 refine eX ?_
 have hadm : jh (aY (aZ (ax code hb)) (aQ (ax code hb)) m).e (aQ (ax code hb))[m] = false := by unfold jh; first | (simp_all; done)
 obtain ⟨hi1, hi2⟩ := GF hlt hadm
 refine eG ?_
 refine be ?_
 refine Nh ?_
 refine Nd ?_
 refine Mv ?_
 refine sG [0, 3, 4, 5, 6, 7, 8, 9, 10, 11] [3, 8, 10] ?_
 refine sW ?_
 refine tC ?_
 refine MC ?_
 rintro q ⟨hq0, hq1⟩
 refine de ?_
 refine we ?_
 refine sc ?_ ?_ <;> intro hbd
 have hql : q < (aY (aZ (ax code hb)) (aQ (ax code hb)) (m + 1)).e.Done.length := by omega
 have hgd := TC hnw hq0 hql
 have hwf := di (f := ia) hql
 have hwf2 : fC (aY (aZ (ax code hb)) (aQ (ax code hb)) (m + 1)).e.Done ≤ bp (aY (aZ (ax code hb)) (aQ (ax code hb)) (m + 1)).e := by { unfold bp; omega }
 unfold fC at hwf2
 have hwf3 : dj (aY (aZ (ax code hb)) (aQ (ax code hb)) (m + 1)).e.Done[q].Rows ≤ ia (aY (aZ (ax code hb)) (aQ (ax code hb)) (m + 1)).e.Done[q] := by { unfold ia; omega }
 have hti1 := wY (c := (ax code hb)) (m + 1) hlt
 have hla := AP (aY (aZ (ax code hb)) (aQ (ax code hb)) (m + 1)).ids (aY (aZ (ax code hb)) (aQ (ax code hb)) (m + 1)).e.Done[q].aeA.Id (aY (aZ (ax code hb)) (aQ (ax code hb)) (m + 1)).ids.length
 have hlw := hti1.hl
 have hl0 := hgd.1
 unfold kX at hl0
 have hlk : (ip (aY (aZ (ax code hb)) (aQ (ax code hb)) (m + 1)).ids (aY (aZ (ax code hb)) (aQ (ax code hb)) (m + 1)).e.Done[q].aeA.Id (aY (aZ (ax code hb)) (aQ (ax code hb)) (m + 1)).ids.length).toNat < (aY (aZ (ax code hb)) (aQ (ax code hb)) (m + 1)).want.length := by omega
 refine bi ?_
 refine sT [0, 3, 4, 5, 6, 7, 8, 9, 10, 11, 12] [3, 8, 10] ?_
 refine eH ?_
 refine sS [0, 3, 4, 5, 6, 7, 8, 9, 10, 11, 12, 13] [3, 8, 10] ?_
 refine ca ?_
 refine MD ?_
 rintro j hj
 refine jR ?_
 refine sc ?_ ?_ <;> intro hbe
 have hjl : j < (aY (aZ (ax code hb)) (aQ (ax code hb)) (m + 1)).ids.length := by omega
 refine dh ?_
 refine sQ [0, 3, 4, 5, 6, 7, 8, 9, 10, 11, 12, 13, 14] [3, 8, 10] ?_
 refine ox ?_
 refine dA 0 ?_ (x := lF jY)
 refine dA 16 ?_ (x := lD [sl .v _] kd)
 refine dA 0 ?_ (x := sM)
 refine Od ?_
 refine PO ?_
 refine dA 2047 ?_ (x := dQ)
 refine sc ?_ ?_ <;> intro hbf
 have hc := hbf
 exact Ml
 have hc := hbf
 refine bb ?_
 exact Cr
 have hje : j = (aY (aZ (ax code hb)) (aQ (ax code hb)) (m + 1)).ids.length := by omega
 subst hje
 refine er ?_
 refine sQ [0, 3, 4, 5, 6, 7, 8, 9, 10, 11, 12, 13, 14] [3, 8, 10] ?_
 refine qE ?_
 refine dA 1 ?_ (x := dq)
 refine dA 3 ?_ (x := sM)
 refine dx 128 (fun gc sgc => ?_) (fun gc sgc => ?_)
 exact Mm
 refine dB 7 gc ?_ (x := lF jY)
 refine dB 15 gc ?_ (x := lD [sl .v _] kd)
 refine dB 7 gc ?_ (x := sM)
 refine NZ ?_
 refine Nu ?_
 refine dB 7 gc ?_ (x := vM false [sl .v _])
 refine dB 7 gc ?_ (x := sM)
 refine MV ?_
 refine OC ?_
 refine dA 65535 ?_ (x := aF gc)
 refine sc ?_ ?_ <;> intro hbf
 exact absurd hbf (by have h2_ := hgd.2; unfold kX at h2_; rw [mg hlk] at h2_; rw [h2_]; first | (unfold iH; simp [lQ]; done) | (simp [iH, lQ]; done))
 exact Mn
 exact Mo
 have hend : m = (aQ (ax code hb)).length := by omega
 subst hend
 have hkp := ack hti
 have hcs := (fO.1 hbe.ok).cs
 have hll2 := hbe.ld
 have hle : (aY (aZ (ax code hb)) (aQ (ax code hb)) (aQ (ax code hb)).length).e.aeL.length ≤ 1000 := by omega
 refine er ?_
 refine sT [0, 3, 4, 5, 6, 7] [3] ?_
 refine sB ?_
 refine fz ?_
 refine cx 147 (fun ga sga => ?_) (fun ga sga => ?_)
 exact absurd ga (by simp [hbe.ok])
 refine rB ga ?_ (x := lD [sl .v _, val _, val _, sl .v _, sl .v _, sl .v _, sl .v _, val _] bU)
 refine rB ga ?_ (x := cL [(true, [sl _ _, val _, val _, sl _ _, sl _ _, sl _ _, sl _ _, val _])] [(true, [sl .v _, val _, val _, sl .v _, sl .v _, sl .v _, sl .v _, val _])] YZ (hs := by exact (adv (by omega))))
 refine lO ?_
 refine sc ?_ ?_ <;> intro hbc
 exact absurd hbc (by simp [hkp, hbe.ok])
 refine bb ?_
 refine sS [0, 3, 4, 5, 6, 7] [3] ?_
 refine eH ?_
 refine sS [0, 3, 4, 5, 6, 7, 15] [3] ?_
 refine ca ?_
 refine sP [0, 3, 4, 5, 6, 7, 15, 16] [3] ?_
 refine sL [0, 3, 4, 5, 6, 7] [3] (fun t : Nat => t ≤ 4) (fun t : Nat => [(15, RV.int (mX (aY (aZ (ax code hb)) (aQ (ax code hb)) (aQ (ax code hb)).length).e.aeL t)), (16, RV.int (t : Int))]) (fun t : Nat => []) (fun t : Nat => 4 - t) 0 (by omega) (by exact aI (by exact rfl) (aI (by exact rfl) tI)) (by exact tI) ?_
 rintro t ht
 have htl := acq (l := (aY (aZ (ax code hb)) (aQ (ax code hb)) (aQ (ax code hb)).length).e.aeL) ht hle
 have htc := tX (aY (aZ (ax code hb)) (aQ (ax code hb)) (aQ (ax code hb)).length).e.aeL (t : Int)
 refine qR ?_
 refine sc ?_ ?_ <;> intro hbd
 have ht4 : t < 4 := by omega
 refine bi ?_
 refine sH [0, 3, 4, 5, 6, 7, 15, 16] [3] ?_
 refine rM ?_
 refine mA ?_
 refine rM ?_
 refine rA ?_ (x := cL [(false, [sl _ _]), (false, [val _])] [(false, [sl .v _]), (false, [val _])] Za (hs := by exact (acT (l := (aY (aZ (ax code hb)) (aQ (ax code hb)) (aQ (ax code hb)).length).e.aeL) (t := (t : Int)) (by omega))))
 refine lh ?_
 refine sG [0, 3, 4, 5, 6, 7, 15, 16] [3] ?_
 refine cb ?_
 refine nx (t + 1) (by omega) (e := (by exact aI (by exact bk (by rw [wT])) (aI (by exact bk (by omega)) tI)))
 have ht4 : t = 4 := by omega
 subst ht4
 refine er ?_
 refine sT [0, 3, 4, 5, 6, 7, 15, 16] [3] ?_
 refine rM ?_
 refine mA ?_
 refine rA ?_ (x := cL [(false, [sl _ _])] [(false, [sl .v _])] Zb (hs := by exact acQ (by omega)))
 refine rA ?_ (x := dr)
 refine sc ?_ ?_ <;> intro hbe
 exact absurd (ab6 (aY (aZ (ax code hb)) (aQ (ax code hb)) (aQ (ax code hb)).length).e.aeL) (by simpa using hbe)
 refine eG ?_
 refine sS [0, 3, 4, 5, 6, 7, 15, 16] [3] ?_
 refine ca ?_
 refine sP [0, 3, 4, 5, 6, 7, 15, 16, 17] [3] ?_
 refine sL [0, 3, 4, 5, 6, 7, 15, 16] [3] (fun k : Nat => k ≤ (aY (aZ (ax code hb)) (aQ (ax code hb)) (aQ (ax code hb)).length).e.aeL.length) (fun k : Nat => [(17, RV.int (k : Int))]) (fun k : Nat => []) (fun k : Nat => (aY (aZ (ax code hb)) (aQ (ax code hb)) (aQ (ax code hb)).length).e.aeL.length - k) 0 (by omega) (by exact aI (by exact rfl) tI) (by exact tI) ?_
 rintro k hk
 refine de ?_
 refine mA ?_
 refine vH ?_
 refine sc ?_ ?_ <;> intro hbf
 have hlt : k < (aY (aZ (ax code hb)) (aQ (ax code hb)) (aQ (ax code hb)).length).e.aeL.length := by omega
 have hwk := ab7 (hcs _ (List.getElem_mem hlt))
 refine dh ?_
 refine sQ [0, 3, 4, 5, 6, 7, 15, 16, 17] [3] ?_
 refine da cG ?_
 refine dA 0 ?_ (x := lF iV)
 refine dA 1 ?_ (x := lD [sl .v _] iW)
 refine dA 0 ?_ (x := sM)
 refine Of ?_
 refine dA 31 ?_ (x := cL [(true, [val _, val _, sl _ _, sl _ _, sl _ _])] [(true, [val _, val _, sl .v _, sl .v _, sl .v _])] RD (hs := by exact TP))
 refine dA 0 ?_ (x := lF iV)
 refine dA 64 ?_ (x := lD [sl .v _] iW)
 refine dA 0 ?_ (x := sM)
 refine dA 448 ?_ (x := aU (by decide) fL (by exact tI) (by exact rfl) (by exact aW (by omega) rfl) (by exact rfl))
 refine dA 960 ?_ (x := cd (by decide) lX (by exact nl rfl))
 refine dA 1984 ?_ (x := lE [sl .v _] bF)
 refine dA 4032 ?_ (x := lN bC)
 refine dA 8191 ?_ (x := cL [(false, [val _])] [(false, [val _])] Zc (hs := by exact adt))
 refine dA 16383 ?_ (x := dI)
 refine sc ?_ ?_ <;> intro hbg
 exact absurd hwk (by simpa using hbg)
 refine bb ?_
 refine sG [0, 3, 4, 5, 6, 7, 15, 16, 17] [3] ?_
 refine wh ?_
 exact Ck
 refine er ?_
 refine sT [0, 3, 4, 5, 6, 7, 15, 16, 17] [3] ?_
 refine ca ?_
 refine sP [0, 3, 4, 5, 6, 7, 15, 16, 17, 18] [3] ?_
 refine sL [0, 3, 4, 5, 6, 7, 15, 16, 17] [3] (fun b : Nat => b ≤ 16) (fun b : Nat => [(18, RV.int (b : Int))]) (fun b : Nat => []) (fun b : Nat => 16 - b) 0 (by omega) (by exact aI (by exact rfl) tI) (by exact tI) ?_
 rintro b hb16
 refine qR ?_
 refine sc ?_ ?_ <;> intro hbg
 refine bi ?_
 refine sT [0, 3, 4, 5, 6, 7, 15, 16, 17, 18] [3] ?_
 refine uY ?_
 refine sS [0, 3, 4, 5, 6, 7, 15, 16, 17, 18, 19] [3] ?_
 refine eH ?_
 refine sS [0, 3, 4, 5, 6, 7, 15, 16, 17, 18, 19, 20] [3] ?_
 refine ca ?_
 refine sP [0, 3, 4, 5, 6, 7, 15, 16, 17, 18, 19, 20, 21] [3] ?_
 refine sL [0, 3, 4, 5, 6, 7, 15, 16, 17, 18] [3] (fun t : Nat => t ≤ 4) (fun t : Nat => [(19, RV.slc ab ((fx (nO b) t).map am)), (20, RV.int (mW (aY (aZ (ax code hb)) (aQ (ax code hb)) (aQ (ax code hb)).length).e.aeL (nO b) t)), (21, RV.int (t : Int))]) (fun t : Nat => []) (fun t : Nat => 4 - t) 0 (by omega) (by exact aI (by exact rfl) (aI (by exact rfl) (aI (by exact rfl) tI))) (by exact tI) ?_
 rintro t ht
 have hgl := acr (l := (aY (aZ (ax code hb)) (aQ (ax code hb)) (aQ (ax code hb)).length).e.aeL) (b := nO b) ht hle
 have htc := tX (aY (aZ (ax code hb)) (aQ (ax code hb)) (aQ (ax code hb)).length).e.aeL (t : Int)
 have hgr := abY (b := nO b) (k := t)
 refine qR ?_
 refine sc ?_ ?_ <;> intro hbh
 have ht4 : t < 4 := by omega
 refine bi ?_
 refine sT [0, 3, 4, 5, 6, 7, 15, 16, 17, 18, 19, 20, 21] [3] ?_
 refine jS ?_
 refine rA ?_ (x := BA (m := t) rfl (by exact (show t ≤ 64 by omega)))
 refine rA ?_ (x := xH (by decide) (by exact tI) (bM rfl))
 refine rA ?_ (x := dQ)
 refine sc ?_ ?_ <;> intro hbi
 have hbt : nO b t = true := by unfold nO; simpa using hbi
 refine sS [0, 3, 4, 5, 6, 7, 15, 16, 17, 18, 19, 20, 21] [3] ?_
 refine wl ?_
 refine ll ?_
 refine sG [0, 3, 4, 5, 6, 7, 15, 16, 17, 18, 19, 20, 21] [3] ?_
 refine rM ?_
 refine mA ?_
 refine rM ?_
 refine rA ?_ (x := cL [(false, [sl _ _]), (false, [val _])] [(false, [sl .v _]), (false, [val _])] Zd (hs := by exact (acU (l := (aY (aZ (ax code hb)) (aQ (ax code hb)) (aQ (ax code hb)).length).e.aeL) (t := (t : Int)) (by omega))))
 refine lh ?_
 exact Mq
 have hbt : ¬ nO b t = true := by unfold nO; simpa using hbi
 refine bb ?_
 exact Mq
 have ht4 : t = 4 := by omega
 subst ht4
 refine bq ?_
 refine sT [0, 3, 4, 5, 6, 7, 15, 16, 17, 18, 19, 20, 21] [3] ?_
 refine rM ?_
 refine mA ?_
 refine rA ?_ (x := vM false [sl .v _])
 refine rA ?_ (x := cL [(false, [sl _ _]), (false, [sl _ _])] [(false, [sl .v _]), (false, [sl .v _])] Ze (hs := by exact (adw (l := (aY (aZ (ax code hb)) (aQ (ax code hb)) (aQ (ax code hb)).length).e.aeL) (g := (fx (nO b) 4)) (by omega))))
 refine rA ?_ (x := dI)
 refine sc ?_ ?_ <;> intro hbi
 exact absurd (ab5 (aY (aZ (ax code hb)) (aQ (ax code hb)) (aQ (ax code hb)).length).e.aeL (nO b)) (by simpa using hbi)
 refine bb ?_
 refine sG [0, 3, 4, 5, 6, 7, 15, 16, 17, 18, 19, 20, 21] [3] ?_
 refine cb ?_
 refine nx (b + 1) (by omega) (e := (by exact aI (by exact bk (by omega)) tI))
 refine bq ?_
 refine sT [0, 3, 4, 5, 6, 7, 15, 16, 17, 18] [3] ?_
 refine rK ?_
 exact xN
end Go.Proofs.YtmekkgdboplbjaaGreat
