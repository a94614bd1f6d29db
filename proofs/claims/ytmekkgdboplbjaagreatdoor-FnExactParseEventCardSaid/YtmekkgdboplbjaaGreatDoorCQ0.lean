/- What functions of the program compute. No condition. -/
import Derived.Test.YtmekkgdboplbjaaGreatDoorCO0
import Derived.Test.YtmekkgdboplbjaaGreatDoorCP0
set_option linter.all false
namespace Go.Proofs.YtmekkgdboplbjaaGreatDoor
open Go Go.RowKit M PV Tryz
set_option maxRecDepth 10000
attribute [local irreducible] PV.Lcl PV.LclR RV.Lcl
def rG : fg prog 27 = some [(0, 1), (1, 1)] := by kernel_rfl
def Ek : prog.underlying 3 = some (.int .i64) := by kernel_rfl
def El : prog.underlying 5 = some (.int .u8) := by kernel_rfl
def ff : prog.underlying 9 = some .string := by kernel_rfl
def rH {s : ab}  (hl : s.length ≤ 1048576) : bI prog gl 55 [(false, [val (.string (B s))])] (ar [(false, [val (vI (bm s))]), (false, [val (.bool (cc s))])]) := by
 refine ek (rs := [(false, [val (vI (bm s))]), (false, [val (.bool (cc s))])]) func55 rfl (nl rfl) (cD (ak.cons (bor_val _) ak.nil) cN) ?_
 intro h0 w0 Fz0
 have hai := xN s
 unfold aq at hai
 have hil := bl (xN s)
 refine fX ?_
 refine rK ?_
 refine sS [0, 2, 3, 7000] [] ?_
 refine rM ?_
 refine rA ?_ (x := gL [(false, [val _])] [(false, [val _])] Dx (hs := by exact (Ej (by omega))))
 refine rA ?_ (x := tM)
 refine rA ?_ (x := gI (cs := [val _]) (by decide) (by exact rfl) (by exact (ak.cons (bor_val _) ak.nil)))
 refine rA ?_ (x := jP (cs := [PV.err _]) (qs := [PV.err _]) (by decide) (by exact rfl) (by exact (aO ao.nil)) (by exact (ak.cons (bor_err _) ak.nil)))
 refine rS ?_
 refine rA ?_ (x := cu (r' := RV.sv false [PV.err _]) (.inr rfl) (by decide) (by exact Cp.sv (aO ao.nil) (ak.cons (bor_err _) ak.nil)))
 refine aT ?_
 refine sS [0, 2, 3, 4, 5, 7000] [] ?_
 refine rA ?_ (x := cu (r' := RV.sv false [PV.err _]) (.inl rfl) (by decide) (by exact Cp.sv (aO ao.nil) (ak.cons (bor_err _) ak.nil)))
 refine rA ?_ (x := Aw Tryz.underlying160)
 refine rM ?_
 refine cx 13 (fun ga sga => ?_) (fun ga sga => ?_)
 refine fU ?_
 refine rM ?_
 refine ai.cases (s := 19) rfl (fun g2 => ?_) (fun g2 => nomatch g2)
 refine nG ?_
 refine rM ?_
 refine ai.cases (s := 23) rfl (fun g3 => ?_) (fun g3 => nomatch g3)
 refine zt g3 ?_
 refine rA ?_ (x := aG g3)
 refine bY ?_
 exact mJ
 refine rB ga ?_ (x := sM)
 refine rB ga ?_ (x := gL [(false, [val _])] [(false, [val _])] fE (hs := by exact (fG (by unfold aq; omega))))
 refine jq ?_
 refine rM ?_
 refine cx 19 (fun gb sgb => ?_) (fun gb sgb => ?_)
 refine zt gb ?_
 refine cX ?_
 refine ai.cases (s := 23) rfl (fun g6 => ?_) (fun g6 => nomatch g6)
 refine zt g6 ?_
 refine rA ?_ (x := aG g6)
 refine bY ?_
 exact mJ
 refine rB gb ?_ (x := sM)
 refine rB gb ?_ (x := cF)
 refine rA ?_ (x := an gb)
 refine rM ?_
 refine cx 23 (fun gc sgc => ?_) (fun gc sgc => ?_)
 refine zt gc ?_
 refine rA ?_ (x := aG gc)
 refine bY ?_
 exact mJ
 refine rB gc ?_ (x := sM)
 refine np ?_
 refine sc ?_ ?_ <;> intro hba
 exact mJ
 have hys : dj s = some (cZ s) := CG (by first | assumption | omega | (simp_all; done) | (simp_all; omega)) (by first | assumption | omega | (simp_all; done) | (simp_all; omega)) (by first | assumption | omega | (simp_all; done) | (simp_all; omega))
 refine aK ?_
 refine sS [0, 2, 3, 4, 5, 7000] [] ?_
 exact tQ
def Em {s : ab}  (hl : s.length ≤ 1048576) : aD prog 135 [(false, [val (.string (B s))])] (ar [(false, [val (vI (bm s))]), (false, [val (.bool (cc s))])]) := by
 refine sF func135 fun h0 w0 Fz0 => ?_
 refine fX ?_
 refine rK ?_
 refine sS [0, 2, 3] [] ?_
 refine rK ?_
 refine sS [0, 2, 3, 4] [] ?_
 refine cW ?_
 refine sS [0, 2, 3, 4, 5] [] ?_
 refine cH ?_
 refine sP [0, 2, 3, 4, 5, 6] [] ?_
 refine sL [0, 2, 3] [] (fun k : Nat => k ≤ s.length ∧ k ≤ 11) (fun k : Nat => [(4, RV.int ((bE (s.take k)).1 : Int)), (5, RV.int ((bE (s.take k)).2 : Int)), (6, RV.int (k : Int))]) (fun k : Nat => []) (fun k : Nat => s.length - k) 0 (by exact ⟨by omega, by omega⟩) (by exact aI (by exact rfl) (aI (by exact rfl) (aI (by exact rfl) tI))) (by exact tI) ?_
 rintro k ⟨hk, ha⟩
 refine ik ?_
 refine bU ?_
 refine rA ?_ (x := fQ ff)
 refine rA ?_ (x := cF)
 refine rM ?_
 refine cx 11 (fun ga sga => ?_) (fun ga sga => ?_)
 refine rB ga ?_ (x := sM)
 refine rB ga ?_ (x := cF)
 refine rA ?_ (x := aG ga)
 refine sc ?_ ?_ <;> intro hba
 have hlt : k < s.length := by first | omega | (simp_all; done) | (simp_all; omega)
 have hk11 : k < 11 := by first | omega | (simp_all; done) | (simp_all; omega)
 refine dg ?_
 refine sS [0, 2, 3, 4, 5, 6] [] ?_
 refine bU ?_
 refine rA ?_ (x := sX hlt ff)
 refine rA ?_ (x := zV)
 refine rM ?_
 refine cx 21 (fun gb sgb => ?_) (fun gb sgb => ?_)
 refine rB gb ?_ (x := sM)
 refine rB gb ?_ (x := sM)
 refine rB gb ?_ (x := sX hlt ff)
 refine rB gb ?_ (x := zU)
 refine rA ?_ (x := aG gb)
 refine sc ?_ ?_ <;> intro hbb
 have hb256 := s[k].toNat_lt
 have hsn := xO hlt
 have hbg := ot s k (by omega)
 have hdg : 48 ≤ s[k].toNat ∧ s[k].toNat ≤ 57 := by first | omega | (simp_all; omega)
 rw [if_pos (mb.2 hdg)] at hsn
 refine ng ?_
 refine rA ?_ (x := zm (by decide) (by exact tI) (aC rfl) (by unfold aq; omega))
 refine bU ?_
 refine rA ?_ (x := sX hlt ff)
 refine rA ?_ (x := Ay (by omega))
 refine rA ?_ (x := tk El Ek (by first | exact (congrArg (IntKind.wrap .i64) tm).trans (IntWalk.i64_in _ (by omega)) | exact IntWalk.i64_in _ (by omega)))
 refine rA ?_ (x := jX)
 refine rS ?_
 refine sG [0, 2, 3, 4, 5, 6] [] ?_
 refine cY ?_
 exact tR
 exact tS
 refine fS ?_
 refine iY ?_
 exact tS
 have hend := xP (s := s) (k := k) (by first | omega | (simp_all; omega)) (by omega)
 rw [hend]
 have hb11 := ot s 11 (by omega)
 refine jo ?_
 refine ng ?_
 refine rA ?_ (x := fQ ff)
 refine rA ?_ (x := fl)
 refine rM ?_
 refine cx 40 (fun gb sgb => ?_) (fun gb sgb => ?_)
 have h0 : 0 < s.length := by have := gb; (try simp at this); omega
 have sgb := gb
 try simp only [qq] at sgb
 refine rB gb ?_ (x := sM)
 refine rB gb ?_ (x := qK h0 ff)
 refine rB gb ?_ (x := pb)
 refine rA ?_ (x := aG gb)
 refine sc ?_ ?_ <;> intro hbb
 have hng : s.head? = some 45 := (kJ h0).2 (by have := hbb; (try simp at this); show s[0].toNat = 45; omega)
 have hnv := xQ hng
 refine sG [0, 2, 3, 4, 5, 6] [] ?_
 refine rM ?_
 refine rA ?_ (x := pc)
 refine bZ ?_
 refine ku ?_
 refine cx 49 (fun gc sgc => ?_) (fun gc sgc => ?_)
 refine kt ?_
 refine ai.cases (s := 54) rfl (fun g9 => ?_) (fun g9 => nomatch g9)
 refine zt g9 ?_
 refine rA ?_ (x := aG g9)
 exact iZ
 exact tT
 have hng : ¬ s.head? = some 45 := by first | exact ov h0 | (rw [kJ h0]; have := hbb; (try simp at this); show ¬ s[0].toNat = 45; omega)
 have hnv := ou hng
 refine cg ?_
 refine ku ?_
 refine cx 49 (fun gc sgc => ?_) (fun gc sgc => ?_)
 refine kt ?_
 refine ai.cases (s := 54) rfl (fun g15 => ?_) (fun g15 => nomatch g15)
 refine zt g15 ?_
 refine rA ?_ (x := aG g15)
 exact iZ
 exact tT
 have h0 : ¬ 0 < s.length := by have := gb; simp at this; simp [this]
 have sgb := gb
 try simp only [qq] at sgb
 refine fS ?_
 refine iY ?_
 have hng : ¬ s.head? = some 45 := by first | exact ov h0 | (rw [kJ h0]; have := hb_; (try simp at this); show ¬ s[0].toNat = 45; omega)
 have hnv := ou hng
 refine cg ?_
 refine ku ?_
 refine cx 49 (fun gc sgc => ?_) (fun gc sgc => ?_)
 refine kt ?_
 refine ai.cases (s := 54) rfl (fun g22 => ?_) (fun g22 => nomatch g22)
 refine zt g22 ?_
 refine rA ?_ (x := aG g22)
 exact iZ
 exact pk
 refine fp ?_
 refine iY ?_
 have hend := xP (s := s) (k := k) (by first | omega | (simp_all; omega)) (by omega)
 rw [hend]
 have hb11 := ot s 11 (by omega)
 refine jo ?_
 refine ng ?_
 refine rA ?_ (x := fQ ff)
 refine rA ?_ (x := fl)
 refine rM ?_
 refine cx 40 (fun gb sgb => ?_) (fun gb sgb => ?_)
 have h0 : 0 < s.length := by have := gb; (try simp at this); omega
 have sgb := gb
 try simp only [qq] at sgb
 refine rB gb ?_ (x := sM)
 refine rB gb ?_ (x := qK h0 ff)
 refine rB gb ?_ (x := pb)
 refine rA ?_ (x := aG gb)
 refine sc ?_ ?_ <;> intro hba
 have hng : s.head? = some 45 := (kJ h0).2 (by have := hba; (try simp at this); show s[0].toNat = 45; omega)
 have hnv := xQ hng
 refine sG [0, 2, 3, 4, 5, 6] [] ?_
 refine rM ?_
 refine rA ?_ (x := pc)
 refine bZ ?_
 refine ku ?_
 refine cx 49 (fun gc sgc => ?_) (fun gc sgc => ?_)
 refine kt ?_
 refine ai.cases (s := 54) rfl (fun g31 => ?_) (fun g31 => nomatch g31)
 refine zt g31 ?_
 refine rA ?_ (x := aG g31)
 exact iZ
 exact pk
 have hng : ¬ s.head? = some 45 := by first | exact ov h0 | (rw [kJ h0]; have := hba; (try simp at this); show ¬ s[0].toNat = 45; omega)
 have hnv := ou hng
 refine cg ?_
 refine ku ?_
 refine cx 49 (fun gc sgc => ?_) (fun gc sgc => ?_)
 refine kt ?_
 refine ai.cases (s := 54) rfl (fun g37 => ?_) (fun g37 => nomatch g37)
 refine zt g37 ?_
 refine rA ?_ (x := aG g37)
 exact iZ
 exact pk
 have h0 : ¬ 0 < s.length := by have := gb; simp at this; simp [this]
 have sgb := gb
 try simp only [qq] at sgb
 refine fS ?_
 refine iY ?_
 have hng : ¬ s.head? = some 45 := by first | exact ov h0 | (rw [kJ h0]; have := hb_; (try simp at this); show ¬ s[0].toNat = 45; omega)
 have hnv := ou hng
 refine cg ?_
 refine ku ?_
 refine cx 49 (fun gc sgc => ?_) (fun gc sgc => ?_)
 refine kt ?_
 refine ai.cases (s := 54) rfl (fun g44 => ?_) (fun g44 => nomatch g44)
 refine zt g44 ?_
 refine rA ?_ (x := aG g44)
 exact iZ
 refine qC ?_
 refine np ?_
 refine rM ?_
 refine cx 54 (fun gd sgd => ?_) (fun gd sgd => ?_)
 exact pi
 refine qh ?_
 refine nh ?_
 refine sc ?_ ?_ <;> intro hba
 exact mK
 exact pj
def gy {s : ab}  (hl : s.length ≤ 1048576) : aD prog 52 [(false, [val (.string (B s))])] (ar [(false, [val (vI (bi s))])]) := by
 refine sF func52 fun h0 w0 Fz0 => ?_
 refine fX ?_
 refine sS [0, 2] [] ?_
 refine rM ?_
 refine rA ?_ (x := cL [(false, [val _])] [(false, [val _])] Dv (hs := by exact (Em (by omega))))
 refine kf ?_
 refine rS ?_
 refine bZ ?_
 refine io ?_
 refine rA ?_ (x := nT)
 refine sc ?_ ?_ <;> intro hba
 have his : cc s = false := by simpa using hba
 refine sS [0, 2, 3, 4] [] ?_
 refine ci ?_
 exact (aI (by refine dz ?_; exact (CJ his).symm) tI)
 have his : cc s = true := by simpa using hba
 refine aK ?_
 refine io ?_
 refine cj ?_
 exact (aI (by refine dz ?_; exact (CK his).symm) tI)
def rI {s : ab} {b : Int}  (hl : s.length ≤ 1048576) (hu0 : 0 ≤ b) (hu1 : b ≤ 255) : aD prog 50 [(false, [val (.string (B s))]), (false, [val (.int .u8 b)])] (ar [(false, [sl hY ((aa (u8 b) s).map et)])]) := by
 refine sF func50 fun h0 w0 Fz0 => ?_
 refine sR ?_
 refine rA ?_ (x := kO (.inr rfl) (by decide) (oM (t := 9) (e := 1)))
 refine sS [0, 1, 4] [] ?_
 refine we ?_
 refine sS [0, 1, 4, 5] [] ?_
 refine cW ?_
 refine sS [0, 1, 4, 5, 6] [] ?_
 refine cH ?_
 refine sP [0, 1, 4, 5, 6, 7] [] ?_
 refine sL [0, 1, 4] [] (fun k : Nat => k ≤ s.length) (fun k : Nat => [(5, RV.slc hY ((aa (u8 b) (s.take k)).dropLast.map et)), (6, RV.sc (.string (B ((aa (u8 b) (s.take k)).getLastD [])))), (7, RV.int (k : Int))]) (fun k : Nat => []) (fun k : Nat => s.length - k) 0 (by omega) (by exact aI (by exact rfl) (aI (by exact rfl) (aI (by exact rfl) tI))) (by exact tI) ?_
 rintro k hk
 have hdl := gw (u8 b) (s.take k)
 have hll := CR (c := u8 b) (s.take k)
 have htl : (s.take k).length = k := by rw [bQ]; omega
 have hdd : (aa (u8 b) (s.take k)).dropLast.length = (aa (u8 b) (s.take k)).length - 1 := List.length_dropLast
 refine ik ?_
 refine bU ?_
 refine rA ?_ (x := fQ ff)
 refine rA ?_ (x := cF)
 refine sc ?_ ?_ <;> intro hba
 have hlt : k < s.length := by omega
 refine dg ?_
 refine sS [0, 1, 4, 5, 6, 7] [] ?_
 refine bU ?_
 refine rA ?_ (x := sX hlt ff)
 refine rM ?_
 refine rA ?_ (x := pb)
 refine sc ?_ ?_ <;> intro hbb
 have hsy := CP (c := u8 b) hlt ((ro hu0 hu1).1 (by simpa using hbb))
 refine sS [0, 1, 4, 5, 6, 7] [] ?_
 refine rA ?_ (x := tM)
 refine rM ?_
 refine pJ ?_
 refine rA ?_ (x := tA)
 refine sG [0, 1, 4, 5, 6, 7] [] ?_
 refine rK ?_
 exact tU
 have hsn := CQ (c := u8 b) hlt (fun e => absurd ((ro hu0 hu1).2 e) (by simpa using hbb))
 refine sG [0, 1, 4, 5, 6, 7] [] ?_
 refine bU ?_
 refine rM ?_
 refine eS ?_
 refine rA ?_ (x := wB k (k + 1) ff (u := [s[k]'hlt]) (by omega) (by omega) (by omega) (by omega) (by rw [eN hlt, List.drop_append_of_le_length (by rw [bQ]; omega), List.drop_eq_nil_of_le (by rw [bQ]; omega)]; rfl))
 refine nJ ?_
 exact tU
 have hend : k = s.length := by omega
 subst hend
 rw [dl]
 rw [dl] at hdl hll hdd htl
 refine cU ?_
 refine sS [0, 1, 4, 5, 6, 7] [] ?_
 refine rA ?_ (x := tM)
 refine rM ?_
 refine pJ ?_
 refine rA ?_ (x := tA)
 refine eC ?_
 exact (aI (by refine hZ ?_; rw [show (aa (u8 b) s).map et = ((aa (u8 b) s).dropLast ++ [(aa (u8 b) s).getLastD []]).map et by rw [← rq], dJ]; rfl) tI)
def En {s : ab} (hl : s.length ≤ 1048576) : aD prog 50 [(false, [val (.string (B s))]), (false, [val (.int .u8 32)])] (ar [(false, [sl hY ((aa 32 s).map et)])]) := rI hl (b := 32) (by decide) (by decide)
def Eo {s : ab} (hl : s.length ≤ 1048576) : aD prog 50 [(false, [val (.string (B s))]), (false, [val (.int .u8 44)])] (ar [(false, [sl hY ((aa 44 s).map et)])]) := rI hl (b := 44) (by decide) (by decide)
def Ep {s : ab} (hl : s.length ≤ 1048576) : aD prog 50 [(false, [val (.string (B s))]), (false, [val (.int .u8 58)])] (ar [(false, [sl hY ((aa 58 s).map et)])]) := rI hl (b := 58) (by decide) (by decide)
def Er {s : ab}  (hl : s.length ≤ 1048576) : bI prog gl 140 [(false, [val (.string (B s))])] (ar [(false, [sl aM ((gX s).map ap)]), (false, [val (.bool (fC s))])]) := by
 refine ek (rs := [(false, [sl aM ((gX s).map ap)]), (false, [val (.bool (fC s))])]) func140 rfl (nl rfl) (cD (ak.cons (bor_val _) ak.nil) cN) ?_
 intro h0 w0 Fz0
 have hsl := gw 44 s
 refine sR ?_
 refine rA ?_ (x := kO (.inr rfl) (by decide) (oM (t := 3) (e := 1)))
 refine rK ?_
 refine sS [0, 2, 3, 7000] [] ?_
 refine rA ?_ (x := fh (qs := []) (by decide) da lT (by decide) rfl rfl rfl rfl rfl (by exact nl rfl) (by exact tI) rfl)
 refine rA ?_ (x := tA)
 refine aT ?_
 refine sS [0, 2, 3, 4, 7000] [] ?_
 refine rM ?_
 refine rA ?_ (x := gL [(false, [val _]), (false, [val _])] [(false, [val _]), (false, [val _])] ye (hs := by exact (yl 44 (by omega))))
 refine rA ?_ (x := lN bp)
 refine im ?_
 refine sP [0, 2, 3, 4, 11, 12, 13, 7000] [] ?_
 refine sL [0, 11, 12, 7000] [] (fun k : Nat => k ≤ (aa 44 s).length ∧ ((aa 44 s).take k).all cc = true) (fun k : Nat => [(4, RV.slc aM ((((aa 44 s).take k).map bm).map ap)), (13, RV.int (k : Int))]) (fun k : Nat => []) (fun k : Nat => (aa 44 s).length - k) 0 (by exact ⟨by omega, AC⟩) (by exact aI (by exact rfl) (aI (by exact rfl) tI)) (by exact tI) ?_
 rintro k ⟨hk, ha⟩
 refine it ?_
 refine sc ?_ ?_ <;> intro hba
 have hlt : k < (aa 44 s).length := by omega
 have hwl := jI (List.getElem_mem hlt)
 have htl : ((aa 44 s).take k).length = k := by rw [bQ]; omega
 refine dg ?_
 refine sS [0, 4, 11, 12, 13, 7000] [] ?_
 refine rA ?_ (x := bn (by decide) bp (by exact tI) (by exact rfl) (by exact bq (by omega) rfl) (by exact rfl))
 refine rA ?_ (x := lE [val _] bP)
 refine rS ?_
 refine sS [0, 4, 6, 11, 12, 13, 7000] [] ?_
 refine eU ?_
 refine rS ?_
 refine bZ ?_
 refine sS [0, 4, 6, 7, 8, 11, 12, 13, 7000] [] ?_
 refine rM ?_
 refine rA ?_ (x := nT)
 refine sc ?_ ?_ <;> intro hbb
 have hnn : cc (aa 44 s)[k] = false := by simpa using hbb
 have hno := CT hlt hnn
 refine sS [0, 4, 6, 7, 8, 11, 12, 13, 7000] [] ?_
 refine rA ?_ (x := kO (.inr rfl) (by decide) (oM (t := 3) (e := 1)))
 refine ci ?_
 exact (aI (by refine hZ ?_; rw [CU hno]; exact rfl) (aI (by refine dN ?_; exact hno.symm) tI))
 have hnm : cc (aa 44 s)[k] = true := by simpa using hbb
 refine aK ?_
 refine sG [0, 4, 6, 7, 8, 11, 12, 13, 7000] [] ?_
 refine rA ?_ (x := tM)
 refine rM ?_
 refine rA ?_ (x := fh (qs := [(false, [val _])]) (by decide) da lT (by decide) rfl rfl rfl rfl rfl (by exact nl rfl) (by exact (aI (by exact tI) tI)) rfl)
 refine rA ?_ (x := iM (by decide) da lT rfl rfl (by decide) rfl (by simp only [bc, aX, List.length_cons, List.length_nil]; omega) (by simp only [bc, aX, List.length_cons, List.length_nil]; omega))
 refine rA ?_ (x := tA)
 refine sG [0, 4, 6, 7, 8, 11, 12, 13, 7000] [] ?_
 refine ip ?_
 refine nx (k + 1) (by exact ⟨by omega, qL ha hlt hnm⟩) (e := (by exact aI (by exact hZ (by rw [wM hlt, dJ]; rfl)) (aI (by exact rfl) tI)))
 have hend : k = (aa 44 s).length := by omega
 have hok : fC s = true := lL (by rw [← hend]; exact ha)
 refine cU ?_
 refine sS [0, 4, 11, 12, 13, 7000] [] ?_
 refine rA ?_ (x := tM)
 refine rA ?_ (x := tA)
 refine ci ?_
 exact (aI (by refine hZ ?_; rw [CV hok, hend, dl]) (aI (by refine dN ?_; exact hok.symm) tI))
def Es {s : ab}  (hl : s.length ≤ 1048576) : bI prog gl 220 [(false, [val (.string (B s))])] (ar [(true, [val (vI ((cI s).getD fe).Id), sl aM (((cI s).getD fe).Values.map ap)]), (false, [val (.bool (cI s).isSome)])]) := by
 refine ek (rs := [(true, [val (vI ((cI s).getD fe).Id), sl aM (((cI s).getD fe).Values.map ap)]), (false, [val (.bool (cI s).isSome)])]) func220 rfl (nl rfl) (cD (ak.cons (bor_val _) ak.nil) cN) ?_
 intro h0 w0 Fz0
 have hca := kK s [58]
 have hcz := kL s [58]
 have hfl := lW (eM s)
 refine sR ?_
 refine rX ?_ (x := (dZ (by decide) iz iC))
 refine nB ?_
 refine rM ?_
 refine rA ?_ (x := gL [(false, [val _]), (false, [val _])] [(false, [val _]), (false, [val _])] ry (hs := by exact (rF (sep := [58]) (by omega))))
 refine rA ?_ (x := tM)
 refine kv ?_
 refine rS ?_
 refine sS [0, 2, 3, 4, 5, 6, 7000] [2] ?_
 refine eU ?_
 refine rS ?_
 refine rS ?_
 refine sS [0, 2, 3, 4, 5, 6, 7, 8, 7000] [2] ?_
 refine rM ?_
 refine wm ?_
 refine vp ?_
 refine rA ?_ (x := tA)
 refine rS ?_
 refine sS [0, 2, 3, 4, 5, 6, 7, 8, 9, 10, 7000] [2] ?_
 refine rM ?_
 refine rA ?_ (x := tM)
 refine rA ?_ (x := cK (qs := [(false, [val _]), (false, [sl _ _])]) (cs := [val _, sl _ _]) (by decide) iz iC rG (by exact rfl) (by exact (aI (by exact tI) (aI (by exact tI) tI))) rfl (by exact rfl))
 refine pX ?_
 refine iq ?_
 refine sO [(0, _), (2, _), (3, _), (4, _), (5, _), (6, _), (7, _), (8, _), (10, _), (11, _), (7000, _)] [(2, _), (11, (27, [val _, sl _ _]))] ?_
 refine cd ?_
 refine rM ?_
 refine fu ?_
 refine cx 33 (fun ga sga => ?_) (fun ga sga => ?_)
 refine fU ?_
 refine rM ?_
 refine ai.cases (s := 37) rfl (fun g2 => ?_) (fun g2 => nomatch g2)
 refine nG ?_
 refine rM ?_
 refine ai.cases (s := 42) rfl (fun g3 => ?_) (fun g3 => nomatch g3)
 refine zt g3 ?_
 refine rA ?_ (x := aG g3)
 refine bY ?_
 exact mL
 refine rB ga ?_ (x := sM)
 refine rB ga ?_ (x := nT)
 refine rA ?_ (x := an ga)
 refine rM ?_
 refine cx 37 (fun gb sgb => ?_) (fun gb sgb => ?_)
 refine zt gb ?_
 refine cX ?_
 refine ai.cases (s := 42) rfl (fun g6 => ?_) (fun g6 => nomatch g6)
 refine zt g6 ?_
 refine rA ?_ (x := aG g6)
 refine bY ?_
 exact mL
 refine rB gb ?_ (x := lD [val _, sl .v _] dV)
 refine rB gb ?_ (x := cL [(true, [val _, sl _ _])] [(true, [val _, sl .v _])] qP (hs := by exact (rD (x := eM s))))
 refine rB gb ?_ (x := nT)
 refine rA ?_ (x := an gb)
 refine rM ?_
 refine cx 42 (fun gc sgc => ?_) (fun gc sgc => ?_)
 refine zt gc ?_
 refine rA ?_ (x := aG gc)
 refine bY ?_
 exact mL
 refine rB gc ?_ (x := lD [val _, sl .v _] dV)
 refine rB gc ?_ (x := gL [(true, [val _, sl _ _])] [(true, [val _, sl .v _])] yb (hs := by exact (ym (r := eM s))))
 refine rB gc ?_ (x := sM)
 refine qH ?_
 refine sc ?_ ?_ <;> intro hba
 exact mL
 have hys := Ce (s := s) (by simp_all) (by simp_all)
 refine aK ?_
 refine sS [0, 2, 3, 4, 5, 6, 7, 8, 10, 11, 7000] [2, 11] ?_
 exact pn
def Et {s : ab}  (hl : s.length ≤ 1048576) : aD prog 136 [(false, [val (.string (B s))])] (ar [(true, [val (vI ((cI s).getD fe).Id), sl aM (((cI s).getD fe).Values.map ap)]), (false, [val (.bool (cI s).isSome)])]) := by
 refine sF func136 fun h0 w0 Fz0 => ?_
 have hsl := gw 58 s
 have h0w : 0 < (aa 58 s).length := by omega
 have hw0 := jI (List.getElem_mem h0w)
 have hfl := lW (dv s)
 refine sR ?_
 refine rX ?_ (x := (dZ (by decide) iz iC))
 refine rK ?_
 refine sT [0, 2, 3] [2] ?_
 refine rM ?_
 refine rA ?_ (x := cL [(false, [val _]), (false, [val _])] [(false, [val _]), (false, [val _])] rx (hs := by exact (Ep (by omega))))
 refine rA ?_ (x := tA)
 refine sS [0, 2, 3, 4] [2] ?_
 refine rA ?_ (x := vM false [sl .v _])
 refine rA ?_ (x := bn (k := 0) (by decide) bp (aC rfl) (by rfl) (by exact bq h0w rfl) (by exact rfl))
 refine rA ?_ (x := lE [val _] bP)
 refine rA ?_ (x := cL [(false, [val _])] [(false, [val _])] gx (hs := by exact (gy (by omega))))
 refine rA ?_ (x := cK (qs := [(false, [val _])]) (cs := [val _, sl _ _]) (by decide) iz iC rG (by exact rfl) (by exact (aI (by exact tI) tI)) rfl (by exact rfl))
 refine pX ?_
 refine iq ?_
 refine sO [(0, _), (2, _), (3, _), (4, _), (5, _)] [(2, _), (5, (27, [val _, sl _ _]))] ?_
 refine cd ?_
 refine gK ?_
 refine rA ?_ (x := dC)
 refine sc ?_ ?_ <;> intro hba
 have hl2 : (aa 58 s).length = 2 := by have := hba; (try simp at this); omega
 have h1w : 1 < (aa 58 s).length := by omega
 have hw1 := jI (List.getElem_mem h1w)
 have hvl := gw 44 (aa 58 s)[1]
 have hrs : dv s = ⟨bi (aa 58 s)[0], kF (aa 58 s)[1]⟩ := by unfold dv; rw [if_pos hl2, ow h0w, ow h1w]
 refine sS [0, 2, 3, 4, 5] [2, 5] ?_
 refine rA ?_ (x := vM false [sl .v _])
 refine rA ?_ (x := bn (k := 1) (by decide) bp (aC rfl) (by rfl) (by exact bq h1w rfl) (by exact rfl))
 refine rA ?_ (x := lE [val _] bP)
 refine wd ?_
 refine sS [0, 2, 3, 4, 5, 6] [2, 5] ?_
 refine cH ?_
 refine sP [0, 2, 3, 4, 5, 6, 7] [2, 5] ?_
 refine sL [0, 2, 3, 4, 5, 6] [2] (fun k : Nat => k ≤ (aa 44 (aa 58 s)[1]).length) (fun k : Nat => [(7, RV.int (k : Int))]) (fun k : Nat => [(5, (27, [val (vI (bi (aa 58 s)[0])), sl aM ((((aa 44 (aa 58 s)[1]).take k).map bi).map ap)]))]) (fun k : Nat => (aa 44 (aa 58 s)[1]).length - k) 0 (by omega) (by exact aI (by exact rfl) tI) (by exact aI (by exact rfl) tI) ?_
 rintro k hk
 refine ee ?_
 refine gK ?_
 refine rA ?_ (x := cF)
 refine sc ?_ ?_ <;> intro hbb
 have hlt : k < (aa 44 (aa 58 s)[1]).length := by omega
 have hwk := jI (List.getElem_mem hlt)
 have htl : ((aa 44 (aa 58 s)[1]).take k).length = k := by rw [bQ]; omega
 refine dg ?_
 refine sQ [0, 2, 3, 4, 5, 6, 7] [2, 5] ?_
 refine ce ck ?_
 refine dA 0 ?_ (x := lF ix)
 refine vz ?_
 refine wt ?_
 refine vk ?_
 refine dA 511 ?_ (x := lF ix)
 refine dA 1023 ?_ (x := bv (ag := false) (vs := [sl _ _]) fa (by exact tI) (by exact rfl) (by exact nl rfl))
 refine sO [(0, _), (2, _), (3, _), (4, _), (5, _), (6, _), (7, _)] [(2, _), (5, (27, [val _, sl _ _]))] ?_
 exact tV
 have hend : k = (aa 44 (aa 58 s)[1]).length := by omega
 subst hend
 rw [dl]
 refine jo ?_
 refine aT ?_
 refine sQ [0, 2, 3, 4, 5, 6, 7] [2, 5] ?_
 refine eD (d := 5) (by exact rfl) (show _ = [val (vI (dv s).Id), sl aM ((dv s).Values.map ap)] from by rw [hrs] <;> rfl) ?_
 refine sG [0, 2, 3, 4, 5, 6, 7] [2, 5] ?_
 refine fv ?_
 refine cx 40 (fun ga sga => ?_) (fun ga sga => ?_)
 refine fU ?_
 refine bY ?_
 exact tW
 refine vP ?_
 refine jq ?_
 refine sc ?_ ?_ <;> intro hbc
 exact tW
 have hys := xx (s := s) (by first | assumption | omega | (simp_all; done) | (simp_all; omega)) (by first | assumption | omega | (simp_all; done) | (simp_all; omega))
 refine aK ?_
 refine sS [0, 2, 3, 4, 5, 6, 7] [2, 5] ?_
 exact pn
 have hl2 : ¬ (aa 58 s).length = 2 := by have := hba; (try simp at this); omega
 have hrs : dv s = ⟨bi (aa 58 s)[0], []⟩ := by unfold dv; rw [if_neg hl2, ow h0w]
 refine cg ?_
 refine nq ?_
 refine eD (d := 5) (by exact rfl) (show _ = [val (vI (dv s).Id), sl aM ((dv s).Values.map ap)] from by rw [hrs] <;> rfl) ?_
 refine kh ?_
 refine cx 40 (fun ga sga => ?_) (fun ga sga => ?_)
 refine fU ?_
 refine bY ?_
 exact tX
 refine vP ?_
 refine jq ?_
 refine sc ?_ ?_ <;> intro hbb
 exact tX
 have hys := xx (s := s) (by first | assumption | omega | (simp_all; done) | (simp_all; omega)) (by first | assumption | omega | (simp_all; done) | (simp_all; omega))
 refine qJ ?_
 exact pn
end Go.Proofs.YtmekkgdboplbjaaGreatDoor
