/- What functions of the program compute. No condition. -/
import Derived.Test.YteflgldonmgejaaGreatCZMRunAdaptive
import Derived.Test.YteflgldonmgejaaGreatCFcRunAdaptive
import Derived.Test.YteflgldonmgejaaGreatCRclRunAdaptive
import Derived.Test.YteflgldonmgejaaGreatCDsp
import Derived.Test.YteflgldonmgejaaGreatCF2
import Derived.KernelRfl
set_option linter.unusedVariables false
set_option linter.unusedSimpArgs false
namespace Go.Proofs.YteflgldonmgejaaGreat
open Go Go.RowKit M PV
set_option maxRecDepth 10000
attribute [local irreducible] PV.Lcl PV.LclR RV.Lcl
theorem impl_withoutInt {l : List Int} {x : Int}  (hb : l.length ≤ 68719476736) : SCall Tryz.prog 149 [(false, [sl .v (l.map cInt)]), (false, [val (vI x)])] (resRV [(false, [sl (.own 3 1) ((withoutI l x).map cInt)])]) := by
 refine sF Tryz.func149 fun h0 w0 Fz0 => ?_
 refine sj 0 fun hl0 => ?_
 refine zaz ?_
 refine sS [0, 1, 4] [] ?_
 refine zj4 ?_
 refine sS [0, 1, 4, 5] [] ?_
 refine zb0 ?_
 refine zfl ?_
 refine sP [0, 1, 4, 5, 9, 10, 11] [] ?_
 refine sL [0, 1, 4, 9, 10] [] (fun k : Nat => k ≤ l.length) (fun k : Nat => [(5, RV.slc (.own 3 1) ((withoutI (l.take k) x).map cInt)), (11, RV.int (k : Int))]) (fun k : Nat => []) (fun k : Nat => l.length - k) 0 (by omega) (by exact aI (by exact rfl) (aI (by exact rfl) (tI))) (by exact ⟨⟩) ?_
 rintro k hk
 refine zfm ?_
 refine sc (fun hba => ?_) (fun hba => ?_)
 have hlt : k < l.length := by omega
 have hwl := wthout_le (l.take k) x
 rw [List.length_take] at hwl
 refine zed ?_
 refine sS [0, 1, 4, 5, 9, 10, 11] [] ?_
 refine zfn ?_
 refine sS [0, 1, 4, 5, 7, 9, 10, 11] [] ?_
 refine zfo ?_
 refine rA ?_ (x := B_neq)
 refine sc (fun hbb => ?_) (fun hbb => ?_)
 have hne : ¬ l[k] = x := hbb
 refine sG [0, 1, 4, 5, 7, 9, 10, 11] [] ?_
 refine rA ?_ (x := tM)
 refine rM ?_
 refine zj6 ?_
 exact zo8
 have hne : l[k] = x := by first | exact hbb | (simp_all; done) | omega
 refine sw_skip ?_
 exact zo8
 have hend : k = l.length := by omega
 refine sw_exit ?_
 refine sS [0, 1, 4, 5, 9, 10, 11] [] ?_
 exact zmq
theorem spec_l11Without {l : List Int} {x : Int}  (hb : l.length ≤ 68719476736) : SCall Tryz.prog 232 [(false, [sl .v (l.map cInt)]), (false, [val (vI x)])] (resRV [(false, [sl (.own 3 1) ((withoutI l x).map cInt)])]) := by
 refine sF Tryz.func232 fun h0 w0 Fz0 => ?_
 refine sj 0 fun hl0 => ?_
 refine zaz ?_
 refine sS [0, 1, 4] [] ?_
 refine zj4 ?_
 refine zjd ?_
 refine sP [0, 1, 4, 5, 6] [] ?_
 refine sL [0, 1, 4] [] (fun k : Nat => k ≤ l.length) (fun k : Nat => [(5, RV.slc (.own 3 1) ((withoutI (l.take k) x).map cInt)), (6, RV.int (k : Int))]) (fun k : Nat => []) (fun k : Nat => l.length - k) 0 (by omega) (by exact aI (by exact rfl) (aI (by exact rfl) (tI))) (by exact ⟨⟩) ?_
 rintro k hk
 refine zb2 ?_
 refine sc (fun hba => ?_) (fun hba => ?_)
 have hlt : k < l.length := by omega
 have hwl := wthout_le (l.take k) x
 rw [List.length_take] at hwl
 refine zje ?_
 refine zgf ?_
 refine zb4 ?_
 refine rM ?_
 refine rA ?_ (x := B_neq)
 refine sc (fun hbb => ?_) (fun hbb => ?_)
 have hne : ¬ l[k] = x := hbb
 refine sG [0, 1, 4, 5, 6] [] ?_
 refine zgt ?_
 refine zb4 ?_
 refine zj6 ?_
 exact zo9
 have hne : l[k] = x := by first | exact hbb | (simp_all; done) | omega
 refine sw_skip ?_
 exact zo9
 have hend : k = l.length := by omega
 refine sw_exit ?_
 refine sS [0, 1, 4, 5, 6] [] ?_
 exact zmq
theorem impl_segmentRows {p1 p2 : Fl} {s : Store} {i : Int} {t : Int}  (hb : wtStore s ≤ 68719476736) (hi0 : 0 ≤ i) (hi2 : i.toNat < s.Segments.length) : SCall Tryz.prog 147 [(true, [sl .v (s.Segments.map (cVersionS p1 p2)), val (vI s.Now)]), (false, [val (vI i)]), (false, [val (vI t)])] (resRV [(false, [sl (.own 66 2) ((visL (s.Segments.getD i.toNat []) t).map (cRow (.own 3 1)))])]) := by
 refine sF Tryz.func147 fun h0 w0 Fz0 => ?_
 refine sn 0 0 fun hl0_0 => ?_
 have hgd := gDt_ (d := ([] : List Version)) hi2
 have hws := wt_mem (f := wtVersionS) hi2
 rw [hgd] at hws
 have hws2 : wtVersionS (s.Segments.getD i.toNat []) = (s.Segments.getD i.toNat []).length + ((s.Segments.getD i.toNat []).map wtVersion).sum := rfl
 have hbu := hb
 simp only [wtStore, wtVersionSS, wtInt] at hbu
 refine zav ?_
 refine rA ?_ (x := loc_const (.inr rfl) (by decide) (ok_nil (t := 66) (e := 2)))
 refine sT [1, 2, 3, 6] [3] ?_
 refine zgn ?_
 refine sw_seq ?_
 refine sS [1, 2, 3, 6, 7] [3] ?_
 refine zdk ?_
 refine rM ?_
 refine rA ?_ (x := loc_index (k := i.toNat) (by decide) sl_33 (by exact ⟨⟩) (by omega) (by exact getm2 hi2 (by rw [gDt_ (d := ([] : List Version)) hi2])) (by exact rfl))
 refine rA ?_ (x := lE [sl .v _] ty_149)
 refine rA ?_ (x := lN sl_149)
 refine zfl ?_
 refine sP [1, 2, 3, 6, 7, 15, 16, 17] [3] ?_
 refine sL [1, 2, 3, 6, 15, 16] [3] (fun k : Nat => k ≤ (s.Segments.getD i.toNat []).length) (fun k : Nat => [(7, RV.slc (.own 66 2) ((visL ((s.Segments.getD i.toNat []).take k) t).map (cRow (.own 3 1)))), (17, RV.int (k : Int))]) (fun k : Nat => []) (fun k : Nat => (s.Segments.getD i.toNat []).length - k) 0 (by omega) (by exact aI (by exact rfl) (aI (by exact rfl) (tI))) (by exact ⟨⟩) ?_
 rintro k hk
 refine zfm ?_
 refine sc (fun hba => ?_) (fun hba => ?_)
 have hlt : k < (s.Segments.getD i.toNat []).length := by omega
 have hwm2 := wt_mem (f := wtVersion) hlt
 have hvl := visL_len ((s.Segments.getD i.toNat []).take k) t
 rw [List.length_take] at hvl
 refine zed ?_
 refine sT [1, 2, 3, 6, 7, 15, 16, 17] [3] ?_
 refine zic ?_
 refine zid ?_
 refine sw_seq ?_
 refine sO [(1, _), (2, _), (3, _), (6, _), (7, _), (9, _), (15, _), (16, _), (17, _)] [(3, _), (9, (151, [val _, sl _ _, val _, val _]))] ?_
 refine sw_reg ?_
 refine rA ?_ (x := lD [val _, sl .v _, val _, val _] ty_151)
 refine znm ?_
 refine sc (fun hbb => ?_) (fun hbb => ?_)
 have hv : visV (s.Segments.getD i.toNat [])[k] t = true := by simpa using hbb
 refine sG [1, 2, 3, 6, 7, 9, 15, 16, 17] [3, 9] ?_
 refine rA ?_ (x := tM)
 refine zif ?_
 refine zgp ?_
 refine rA ?_ (x := tA)
 exact zoa
 have hv : visV (s.Segments.getD i.toNat [])[k] t = false := by simpa using hbb
 refine sw_skip ?_
 exact zoa
 have hend : k = (s.Segments.getD i.toNat []).length := by omega
 refine sw_exit ?_
 refine sT [1, 2, 3, 6, 7, 15, 16, 17] [3] ?_
 exact zmq
theorem impl_reclaimed {e : Engine}  (hb : wtEngine e ≤ 68719476736) : OCall Tryz.prog 150 [(true, [sl (.own 149 1) (e.Store.Segments.map (cVersionS (.own 151 4) (.own 3 1))), val (vI e.Store.Now), val (vI e.Cursor), sl (.own 3 1) (e.Order.map cInt), sl (.own 142 10) (e.Active.map (cActive (.own 193 3) (.own 3 1) (.own 3 1) (.own 66 2) (.own 3 1))), sl (.own 144 7) (e.Done.map (cFinished (.own 193 3) (.own 3 1) (.own 66 2) (.own 3 1))), sl (.own 148 5) (e.Ledger.map (cCharge (.own 3 1) (.own 3 1) (.own 3 1))), val (vI e.Steps)])] (resRV [(true, [sl (.own 149 1) ((reclaimE e).Store.Segments.map (cVersionS (.own 151 4) (.own 3 1))), val (vI (reclaimE e).Store.Now), val (vI (reclaimE e).Cursor), sl (.own 3 1) ((reclaimE e).Order.map cInt), sl (.own 142 10) ((reclaimE e).Active.map (cActive (.own 193 3) (.own 3 1) (.own 3 1) (.own 66 2) (.own 3 1))), sl (.own 144 7) ((reclaimE e).Done.map (cFinished (.own 193 3) (.own 3 1) (.own 66 2) (.own 3 1))), sl (.own 148 5) ((reclaimE e).Ledger.map (cCharge (.own 3 1) (.own 3 1) (.own 3 1))), val (vI (reclaimE e).Steps)])]) := by
 refine ocall_of (rs := [(true, [sl (.own 149 1) ((reclaimE e).Store.Segments.map (cVersionS (.own 151 4) (.own 3 1))), val (vI (reclaimE e).Store.Now), val (vI (reclaimE e).Cursor), sl (.own 3 1) ((reclaimE e).Order.map cInt), sl (.own 142 10) ((reclaimE e).Active.map (cActive (.own 193 3) (.own 3 1) (.own 3 1) (.own 66 2) (.own 3 1))), sl (.own 144 7) ((reclaimE e).Done.map (cFinished (.own 193 3) (.own 3 1) (.own 66 2) (.own 3 1))), sl (.own 148 5) ((reclaimE e).Ledger.map (cCharge (.own 3 1) (.own 3 1) (.own 3 1))), val (vI (reclaimE e).Steps)])]) Tryz.func150 rfl (nl rfl) ?_
 intro h0 w0 Fz0
 refine sn 0 0 fun hl0_0 => ?_
 refine sn 0 3 fun hl0_3 => ?_
 refine sn 0 4 fun hl0_4 => ?_
 refine sn 0 5 fun hl0_5 => ?_
 refine sn 0 6 fun hl0_6 => ?_
 have hbu := hb
 simp only [wtEngine, wtActiveS] at hbu
 refine zc6 ?_
 refine sT [1, 2] [1, 2] ?_
 refine zj4 ?_
 refine sS [1, 2, 3] [1, 2] ?_
 refine zm0 ?_
 refine sP [1, 2, 3, 8, 9, 10] [1, 2] ?_
 refine sL [1, 2, 8, 9] [1, 2] (fun k : Nat => k ≤ e.Active.length) (fun k : Nat => [(3, RV.slc (.own 3 1) ((timesA (e.Active.take k)).map cInt)), (10, RV.int (k : Int))]) (fun k : Nat => []) (fun k : Nat => e.Active.length - k) 0 (by omega) (by exact aI (by exact rfl) (aI (by exact rfl) (tI))) (by exact ⟨⟩) ?_
 rintro k hk
 refine zfm ?_
 refine sc (fun hba => ?_) (fun hba => ?_)
 have hlt : k < e.Active.length := by omega
 have htl : (timesA (e.Active.take k)).length = k := by unfold timesA; rw [List.length_map, List.length_take]; omega
 have hts : timesA (e.Active.take (k + 1)) = timesA (e.Active.take k) ++ [e.Active[k].Time] := by unfold timesA; rw [map_take_succ hlt]
 refine zed ?_
 refine sT [1, 2, 3, 8, 9, 10] [1, 2] ?_
 refine zm1 ?_
 refine znb ?_
 refine sO [(1, _), (2, _), (3, _), (5, _), (8, _), (9, _), (10, _)] [(1, _), (2, _), (5, (142, [val _, val _, sl _ _, sl _ _, val _, sl _ _, val _, val _, val _, sl _ _]))] ?_
 refine sw_reg ?_
 refine rA ?_ (x := tM)
 refine zde ?_
 refine zj6 ?_
 refine sG [1, 2, 3, 5, 8, 9, 10] [1, 2, 5] ?_
 refine zfp ?_
 exact zob
 have hend : k = e.Active.length := by omega
 have hte : timesA (e.Active.take k) = timesA e.Active := by rw [hend, List.take_length]
 have htl : (timesA e.Active).length = e.Active.length := by unfold timesA; rw [List.length_map]
 rw [hte]
 refine sw_exit ?_
 refine sT [1, 2, 3, 8, 9, 10] [1, 2] ?_
 refine zdm ?_
 refine rA ?_ (x := vM false [sl .v _])
 refine rA ?_ (x := cL [(true, [sl _ _, val _]), (false, [sl _ _])] [(true, [sl .v _, val _]), (false, [sl .v _])] c_211 (hs := by exact (impl_ReclaimStore (s := e.Store) (keep := timesA e.Active) (by omega) (by omega))))
 refine rA ?_ (x := tM)
 refine zoc ?_
 refine zc8 ?_
 refine sw_seq ?_
 refine sO [(1, _), (2, _), (3, _), (8, _), (9, _), (10, _)] [(1, (40, [sl _ _, val _, val _, sl _ _, sl _ _, sl _ _, sl _ _, val _])), (2, _)] ?_
 exact zcc
theorem spec_l9Reclaim {e : Engine}  (hb : wtEngine e ≤ 68719476736) : XCall Tryz.prog 156 40 [sl (.own 149 1) (e.Store.Segments.map (cVersionS (.own 151 4) (.own 3 1))), val (vI e.Store.Now), val (vI e.Cursor), sl (.own 3 1) (e.Order.map cInt), sl (.own 142 10) (e.Active.map (cActive (.own 193 3) (.own 3 1) (.own 3 1) (.own 66 2) (.own 3 1))), sl (.own 144 7) (e.Done.map (cFinished (.own 193 3) (.own 3 1) (.own 66 2) (.own 3 1))), sl (.own 148 5) (e.Ledger.map (cCharge (.own 3 1) (.own 3 1) (.own 3 1))), val (vI e.Steps)] [sl (.own 149 1) ((reclaimE e).Store.Segments.map (cVersionS (.own 151 4) (.own 3 1))), val (vI (reclaimE e).Store.Now), val (vI e.Cursor), sl (.own 3 1) (e.Order.map cInt), sl (.own 142 10) (e.Active.map (cActive (.own 193 3) (.own 3 1) (.own 3 1) (.own 66 2) (.own 3 1))), sl (.own 144 7) (e.Done.map (cFinished (.own 193 3) (.own 3 1) (.own 66 2) (.own 3 1))), sl (.own 148 5) (e.Ledger.map (cCharge (.own 3 1) (.own 3 1) (.own 3 1))), val (vI e.Steps)] [] (resRV []) := by
 refine xcall_of (rs := []) Tryz.func156 rfl (nl rfl) (nl rfl) ?_
 intro g_ h0 w0 Fz0
 have hbu := hb
 simp only [wtEngine, wtActiveS] at hbu
 refine sR ?_
 refine zj4 ?_
 refine sT [0, 2, 5000] [0] ?_
 refine zhx ?_
 refine sP [0, 2, 3, 5000] [0] ?_
 refine sL [0, 5000] [0] (fun k : Nat => k ≤ e.Active.length) (fun k : Nat => [(2, RV.slc (.own 3 1) ((timesA (e.Active.take k)).map cInt)), (3, RV.int (k : Int))]) (fun k : Nat => []) (fun k : Nat => e.Active.length - k) 0 (by omega) (by exact aI (by exact rfl) (aI (by exact rfl) (tI))) (by exact ⟨⟩) ?_
 rintro k hk
 refine zg2 ?_
 refine zod ?_
 refine zmf ?_
 refine sc (fun hba => ?_) (fun hba => ?_)
 have hlt : k < e.Active.length := by omega
 have htl : (timesA (e.Active.take k)).length = k := by unfold timesA; rw [List.length_map, List.length_take]; omega
 have hts : timesA (e.Active.take (k + 1)) = timesA (e.Active.take k) ++ [e.Active[k].Time] := by unfold timesA; rw [map_take_succ hlt]
 refine zed ?_
 refine sH [0, 2, 3, 5000] [0] ?_
 refine rA ?_ (x := tM)
 refine zod ?_
 refine zdo ?_
 refine zoe ?_
 refine rA ?_ (x := loc_efield (by decide) fd_142_1 (by exact nl rfl))
 refine zjy ?_
 refine sG [0, 2, 3, 5000] [0] ?_
 refine ze0 ?_
 exact zob
 have hend : k = e.Active.length := by omega
 have hte : timesA (e.Active.take k) = timesA e.Active := by rw [hend, List.take_length]
 have htl : (timesA e.Active).length = e.Active.length := by unfold timesA; rw [List.length_map]
 rw [hte]
 refine sw_exit ?_
 refine sT [0, 2, 3, 5000] [0] ?_
 refine zod ?_
 refine zdm ?_
 refine rA ?_ (x := vM false [sl .v _])
 refine rA ?_ (x := cL [(true, [sl _ _, val _]), (false, [sl _ _])] [(true, [sl .v _, val _]), (false, [sl .v _])] c_212 (hs := by exact (spec_ReclaimStore (s := e.Store) (keep := timesA e.Active) (by omega) (by omega))))
 refine rA ?_ (x := tM)
 refine zoc ?_
 refine zn8 ?_
 refine rS ?_
 refine sO [(0, _), (2, _), (3, _), (4, _), (5, _), (5000, _)] [(0, _), (4, (35, [sl _ _, val _]))] ?_
 refine sw_reg ?_
 refine rA ?_ (x := cM Cp.ptr)
 refine rA ?_ (x := loc_ltake (ms := [sl _ _, val _]) (qs := [sl .v _, val _]) (by decide) ty_35 (fun h => nomatch h) (by exact nl rfl) (by exact rfl) (by exact (ToL.cons PV.to_none (ToL.cons (PV.To.refl _) ToL.nil))) (by exact (BorL.cons (bor_sl _) (BorL.cons (bor_val _) BorL.nil))))
 refine rA ?_ (x := loc_nilchk (by decide))
 refine zc8 ?_
 exact ⟨(by exact rfl), rfl, tI⟩
end Go.Proofs.YteflgldonmgejaaGreat
