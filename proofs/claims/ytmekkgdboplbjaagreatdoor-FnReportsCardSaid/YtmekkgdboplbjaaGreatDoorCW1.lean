/- What functions of the program compute. No condition. -/
import Derived.Test.YtmekkgdboplbjaaGreatDoorCV1
set_option linter.all false
namespace Go.Proofs.YtmekkgdboplbjaaGreatDoor
open Go Go.RowKit M PV
set_option maxRecDepth 10000
attribute [local irreducible] PV.Lcl PV.LclR RV.Lcl
set_option maxHeartbeats 8000000
attribute [local irreducible] ak gn
def YJ : Tryz.prog.underlying 4 = some .bool := by kernel_rfl
def YK {code : List Int}  : iu Tryz.prog gl 4 [(false, [sl .v (code.map jL)])] (aF [(false, [val (.bool true)])]) := by
 refine nt (rs := [(false, [val (.bool true)])]) Tryz.func4 rfl (nl rfl) (bV (ab.cons (bor_sl _) ab.nil) bH) ?_
 intro h0 w0 Fz0
 refine sj 0 fun hl0 => ?_
 refine lM ?_
 refine Ai ?_
 refine rA ?_ (x := cL [(false, [sl _ _])] [(false, [sl .v _])] Sf (hs := by exact YD))
 refine sc (fun hba => ?_) (fun hba => ?_)
 refine sS [0, 2, 7000] [] ?_
 refine rK ?_
 exact qQ
 have hbig : code.length ≤ 1048576 := by have hh := hba; simp at hh; omega
 have hb : code.length ≤ 9223372036854775807 := by omega
 have hb2 : code.length ≤ 4611686018427387904 := by omega
 have hwe := Nq (dg code hb)
 have hw7 := MW (dg code hb)
 have hw4 := MH (dg code hb)
 have hwl := MO (dg code hb)
 have hwl2 : (ot (dg code hb)).l.length ≤ 65 := by unfold hZ at hwl; omega
 have hal : (lz (cz (dg code hb)).1).length ≤ 3100 := by { have h_ : (cz (dg code hb)).1.ZF.length ≤ bB (cz (dg code hb)).1 := by { unfold bB ix; omega }; unfold lz; split; (· rw [am]; omega); (· simp) }
 refine bc ?_
 refine Ai ?_
 refine rA ?_ (x := cL [(false, [sl _ _])] [(false, [sl .v _])] Sg (hs := by exact (Yq (by omega) (by omega))))
 refine oE ?_
 refine sT [0, 2, 3, 7000] [3] ?_
 refine rA ?_ (x := lD [sl .v _, val _, val _, sl .v _, sl .v _, sl .v _, sl .v _, val _] co)
 refine rA ?_ (x := gL [(true, [sl _ _, val _, val _, sl _ _, sl _ _, sl _ _, sl _ _, val _])] [(true, [sl .v _, val _, val _, sl .v _, sl .v _, sl .v _, sl .v _, val _])] Sp (hs := by exact (XE (by omega))))
 refine rA ?_ (x := tA)
 refine sS [0, 2, 3, 4, 7000] [3] ?_
 refine rA ?_ (x := lD [sl .v _, val _, val _, sl .v _, sl .v _, sl .v _, sl .v _, val _] co)
 refine rA ?_ (x := cL [(true, [sl _ _, val _, val _, sl _ _, sl _ _, sl _ _, sl _ _, val _])] [(true, [sl .v _, val _, val _, sl .v _, sl .v _, sl .v _, sl .v _, val _])] Sv (hs := by exact (XF (by omega))))
 refine rA ?_ (x := tA)
 refine dO ?_
 refine sP [0, 2, 3, 4, 5, 7000] [3] ?_
 refine cv cd ?_
 refine dA 0 ?_ (x := vM false [sl .v _])
 refine dA 1 ?_ (x := lN ji)
 refine dA 0 ?_ (x := vM false [sl .v _])
 refine dA 4 ?_ (x := lN ji)
 refine dA 15 ?_ (x := gJ)
 refine dA 31 ?_ (x := sM)
 refine dx 24 (fun ga sga => ?_) (fun ga sga => ?_)
 exact absurd ga (by first | (simp; done) | (simp [ru]; done))
 refine dB 63 ga ?_ (x := lD [sl .v _, val _, val _, sl .v _, sl .v _, sl .v _, sl .v _, val _] co)
 refine dB 127 ga ?_ (x := gL [(true, [sl _ _, val _, val _, sl _ _, sl _ _, sl _ _, sl _ _, val _])] [(true, [sl .v _, val _, val _, sl .v _, sl .v _, sl .v _, sl .v _, val _])] Sz (hs := by exact (Ve (by omega))))
 refine dB 63 ga ?_ (x := lD [sl .v _, val _, val _, sl .v _, sl .v _, sl .v _, sl .v _, val _] co)
 refine dB 511 ga ?_ (x := cL [(true, [sl _ _, val _, val _, sl _ _, sl _ _, sl _ _, sl _ _, val _])] [(true, [sl .v _, val _, val _, sl .v _, sl .v _, sl .v _, sl .v _, val _])] SE (hs := by exact (Vf (by omega))))
 refine dB 1023 ga ?_ (x := DQ)
 refine dA 2047 ?_ (x := aH ga)
 refine sc (fun hbb => ?_) (fun hbb => ?_)
 exact absurd hbb (by first | (simp; done) | (simp [ru]; done))
 refine eA ?_
 refine sS [0, 2, 3, 4, 5, 7000] [3] ?_
 refine de ?_
 refine sP [0, 2, 3, 4, 5, 6, 7000] [3] ?_
 refine sL [0, 3, 4, 5, 7000] [3] (fun k : Nat => k ≤ (lz (cz (dg code hb)).1).length) (fun k : Nat => [(6, RV.int (k : Int))]) (fun k : Nat => []) (fun k : Nat => (lz (cz (dg code hb)).1).length - k) 0 (by omega) (by exact aI (by exact rfl) tI) (by exact tI) ?_
 rintro k hk
 refine iv ?_
 refine rA ?_ (x := lN ji)
 refine rA ?_ (x := dZ)
 refine sc (fun hbc => ?_) (fun hbc => ?_)
 have hlt : k < (lz (cz (dg code hb)).1).length := by first | omega | (simp only [am] at hbc; omega)
 refine er ?_
 refine sQ [0, 3, 4, 5, 6, 7000] [3] ?_
 refine nC ?_
 refine dA 3 ?_ (x := aU (by decide) ji (by exact tI) (by exact rfl) (by exact aV (by omega) rfl) (by exact rfl))
 refine dA 7 ?_ (x := lE [val _] Lq)
 refine gy ?_
 refine dA 48 ?_ (x := aU (by decide) ji (by exact tI) (by exact rfl) (by exact aV (by omega) rfl) (by exact rfl))
 refine dA 112 ?_ (x := lE [val _] Lq)
 refine dA 255 ?_ (x := DQ)
 refine dA 511 ?_ (x := sM)
 refine dx 46 (fun gb sgb => ?_) (fun gb sgb => ?_)
 exact Ho
 refine Ju ?_
 refine dB 4095 gb ?_ (x := cL [(true, [sl _ _, val _, val _, sl _ _, sl _ _, sl _ _, sl _ _, val _]), (false, [val _])] [(true, [sl .v _, val _, val _, sl .v _, sl .v _, sl .v _, sl .v _, val _]), (false, [val _])] SF (hs := by exact (YF (by omega))))
 refine Ju ?_
 refine dB 32767 gb ?_ (x := cL [(true, [sl _ _, val _, val _, sl _ _, sl _ _, sl _ _, sl _ _, val _]), (false, [val _])] [(true, [sl .v _, val _, val _, sl .v _, sl .v _, sl .v _, sl .v _, val _]), (false, [val _])] Bo (hs := by exact (Cy (by omega))))
 refine dB 65535 gb ?_ (x := Dm (by decide) YJ (by exact tI) (by exact tI))
 refine dA 131071 ?_ (x := aH gb)
 refine sc (fun hbd => ?_) (fun hbd => ?_)
 exact absurd hbd (by first | (simp; done) | (simp [ru]; done))
 refine bc ?_
 refine sG [0, 3, 4, 5, 6, 7000] [3] ?_
 refine ca ?_
 refine nx (k + 1) (by omega)
 refine bE ?_
 refine sT [0, 3, 4, 5, 6, 7000] [3] ?_
 refine rA ?_ (x := vM false [sl .v _])
 refine rA ?_ (x := cL [(false, [sl _ _])] [(false, [sl .v _])] SI (hs := by exact (YG (by omega) (by omega))))
 refine rA ?_ (x := tM)
 refine vz ?_
 refine mx ?_
 refine gA ?_
 refine sO [(0, _), (3, _), (4, _), (5, _), (6, _), (7, _), (8, _), (7000, _)] [(3, _), (7, (41, [sl _ _, val _]))] ?_
 refine As ?_
 refine rA ?_ (x := cL [(false, [sl _ _])] [(false, [sl .v _])] SL (hs := by exact (YH (by omega) (by omega))))
 refine vE ?_
 refine ba ?_
 refine sO [(0, _), (3, _), (4, _), (5, _), (6, _), (7, _), (8, _), (9, _), (7000, _)] [(3, _), (7, _), (9, (56, [val _, val _, sl _ _, sl _ _, val _, val _, sl _ _]))] ?_
 refine As ?_
 refine rA ?_ (x := cL [(false, [sl _ _])] [(false, [sl .v _])] SN (hs := by exact (YI (by omega) (by omega))))
 refine jJ ?_
 refine sP [0, 3, 4, 5, 6, 7, 8, 9, 10, 7000] [3, 7, 9] ?_
 refine cv cd ?_
 refine dA 0 ?_ (x := lD [sl .v _, val _] cF)
 refine dA 0 ?_ (x := sM)
 refine dA 3 ?_ (x := gL [(true, [sl _ _, val _]), (false, [val _])] [(true, [sl .v _, val _]), (false, [val _])] SO (hs := by exact Yz (by omega)))
 refine dA 0 ?_ (x := lD [sl .v _, val _] cF)
 refine dA 0 ?_ (x := sM)
 refine dA 31 ?_ (x := cL [(true, [sl _ _, val _]), (false, [val _])] [(true, [sl .v _, val _]), (false, [val _])] SS (hs := by exact YA (by omega)))
 refine dA 63 ?_ (x := sK)
 refine dA 127 ?_ (x := sM)
 refine dx 71 (fun gb sgb => ?_) (fun gb sgb => ?_)
 refine dB 255 gb ?_ (x := lD [val _, val _, sl .v _, sl .v _, val _, val _, sl .v _] qx)
 refine dB 511 gb ?_ (x := gL [(true, [val _, val _, sl _ _, sl _ _, val _, val _, sl _ _])] [(true, [val _, val _, sl .v _, sl .v _, val _, val _, sl .v _])] SU (hs := by exact Yw))
 refine dB 255 gb ?_ (x := lD [val _, val _, sl .v _, sl .v _, val _, val _, sl .v _] qx)
 refine dB 2047 gb ?_ (x := cL [(true, [val _, val _, sl _ _, sl _ _, val _, val _, sl _ _])] [(true, [val _, val _, sl .v _, sl .v _, val _, val _, sl .v _])] SX (hs := by exact Yx))
 refine dB 4095 gb ?_ (x := sK)
 refine dA 8191 ?_ (x := aK gb)
 refine dA 16383 ?_ (x := sM)
 refine dx 78 (fun gc sgc => ?_) (fun gc sgc => ?_)
 refine dB 32767 gc ?_ (x := vM false [sl .v _])
 refine dB 65535 gc ?_ (x := gL [(false, [sl _ _])] [(false, [sl .v _])] Tb (hs := by exact YB (by omega)))
 refine dB 32767 gc ?_ (x := vM false [sl .v _])
 refine dB 262143 gc ?_ (x := cL [(false, [sl _ _])] [(false, [sl .v _])] Tf (hs := by exact YC (by omega)))
 refine dB 524287 gc ?_ (x := sK)
 refine dA 1048575 ?_ (x := aK gc)
 refine dA 2097151 ?_ (x := sA)
 refine dc ?_
 exact rb (by first | rfl | (simp; done))
 exact absurd gc (by first | (simp; done) | (simp [ru]; done))
 exact Ho
end Go.Proofs.YtmekkgdboplbjaaGreatDoor
