/- What functions of the program compute. No condition. -/
import Derived.Test.YtmekkgdboplbjaaCZMFnIsolation
import Derived.Test.YtmekkgdboplbjaaCFcFnIsolation
import Derived.Test.YtmekkgdboplbjaaCRclFnIsolation
import Derived.Test.YtmekkgdboplbjaaCDsp
import Derived.Test.YtmekkgdboplbjaaCF2
import Derived.KernelRfl
set_option linter.unusedVariables false
set_option linter.unusedSimpArgs false
namespace Go.Proofs.Ytmekkgdboplbjaa
open Go Go.RowKit M PV
set_option maxRecDepth 10000
attribute [local irreducible] PV.Lcl PV.LclR RV.Lcl
theorem impl_withoutInt {l : List Int} {x : Int}  (hb : l.length ≤ 68719476736) : SCall Try.prog 26 [(false, [sl .v (l.map cInt)]), (false, [val (vI x)])] (resRV [(false, [sl (.own 3 1) ((withoutI l x).map cInt)])]) := by
 refine sF Try.func26 fun h0 w0 Fz0 => ?_
 refine sj 0 fun hl0 => ?_
 refine zab ?_
 refine sS [0, 1, 4] [] ?_
 refine zfo ?_
 refine sw_seq ?_
 refine sS [0, 1, 4, 5] [] ?_
 refine za3 ?_
 refine za4 ?_
 refine sP [0, 1, 4, 5, 9, 10, 11] [] ?_
 refine sL [0, 1, 4, 9, 10] [] (fun k : Nat => k ≤ l.length) (fun k : Nat => [(5, RV.slc (.own 3 1) ((withoutI (l.take k) x).map cInt)), (11, RV.int (k : Int))]) (fun k : Nat => []) (fun k : Nat => l.length - k) 0 (by omega) (by exact aI (by exact rfl) (aI (by exact rfl) (tI))) (by exact ⟨⟩) ?_
 rintro k hk
 refine za5 ?_
 refine sc (fun hba => ?_) (fun hba => ?_)
 have hlt : k < l.length := by omega
 have hwl := wthout_le (l.take k) x
 rw [List.length_take] at hwl
 refine za6 ?_
 refine sS [0, 1, 4, 5, 9, 10, 11] [] ?_
 refine za7 ?_
 refine sS [0, 1, 4, 5, 7, 9, 10, 11] [] ?_
 refine za8 ?_
 refine rA ?_ (x := B_neq)
 refine sc (fun hbb => ?_) (fun hbb => ?_)
 have hne : ¬ l[k] = x := hbb
 refine sG [0, 1, 4, 5, 7, 9, 10, 11] [] ?_
 refine rA ?_ (x := tM)
 refine rM ?_
 refine zfr ?_
 refine rA ?_ (x := tA)
 exact zg6
 have hne : l[k] = x := by first | exact hbb | (simp_all; done) | omega
 refine sw_skip ?_
 exact zg6
 have hend : k = l.length := by omega
 refine sw_exit ?_
 refine sS [0, 1, 4, 5, 9, 10, 11] [] ?_
 exact zb7
theorem impl_segmentRows {p1 p2 : Fl} {s : Store} {i : Int} {t : Int}  (hb : wtStore s ≤ 68719476736) (hi0 : 0 ≤ i) (hi2 : i.toNat < s.Segments.length) : SCall Try.prog 24 [(true, [sl .v (s.Segments.map (cVersionS p1 p2)), val (vI s.Now)]), (false, [val (vI i)]), (false, [val (vI t)])] (resRV [(false, [sl (.own 45 2) ((visL (s.Segments.getD i.toNat []) t).map (cRow (.own 3 1)))])]) := by
 refine sF Try.func24 fun h0 w0 Fz0 => ?_
 refine sn 0 0 fun hl0_0 => ?_
 have hgd := gDt_ (d := ([] : List Version)) hi2
 have hws := wt_mem (f := wtVersionS) hi2
 rw [hgd] at hws
 have hws2 : wtVersionS (s.Segments.getD i.toNat []) = (s.Segments.getD i.toNat []).length + ((s.Segments.getD i.toNat []).map wtVersion).sum := rfl
 have hbu := hb
 simp only [wtStore, wtVersionSS, wtInt] at hbu
 refine zd7 ?_
 refine rA ?_ (x := loc_const (.inr rfl) (by decide) (ok_nil (t := 45) (e := 2)))
 refine sT [1, 2, 3, 6] [3] ?_
 refine zb4 ?_
 refine sw_seq ?_
 refine sS [1, 2, 3, 6, 7] [3] ?_
 refine zda ?_
 refine rM ?_
 refine rA ?_ (x := loc_index (k := i.toNat) (by decide) sl_24 (by exact ⟨⟩) (by omega) (by exact getm2 hi2 (by rw [gDt_ (d := ([] : List Version)) hi2])) (by exact rfl))
 refine rA ?_ (x := lE [sl .v _] ty_71)
 refine rA ?_ (x := lN sl_71)
 refine za4 ?_
 refine sP [1, 2, 3, 6, 7, 15, 16, 17] [3] ?_
 refine sL [1, 2, 3, 6, 15, 16] [3] (fun k : Nat => k ≤ (s.Segments.getD i.toNat []).length) (fun k : Nat => [(7, RV.slc (.own 45 2) ((visL ((s.Segments.getD i.toNat []).take k) t).map (cRow (.own 3 1)))), (17, RV.int (k : Int))]) (fun k : Nat => []) (fun k : Nat => (s.Segments.getD i.toNat []).length - k) 0 (by omega) (by exact aI (by exact rfl) (aI (by exact rfl) (tI))) (by exact ⟨⟩) ?_
 rintro k hk
 refine za5 ?_
 refine sc (fun hba => ?_) (fun hba => ?_)
 have hlt : k < (s.Segments.getD i.toNat []).length := by omega
 have hwm2 := wt_mem (f := wtVersion) hlt
 have hvl := visL_len ((s.Segments.getD i.toNat []).take k) t
 rw [List.length_take] at hvl
 refine za6 ?_
 refine sT [1, 2, 3, 6, 7, 15, 16, 17] [3] ?_
 refine zds ?_
 refine zdt ?_
 refine sw_seq ?_
 refine sO [(1, _), (2, _), (3, _), (6, _), (7, _), (9, _), (15, _), (16, _), (17, _)] [(3, _), (9, (107, [val _, sl _ _, val _, val _]))] ?_
 refine sw_reg ?_
 refine rA ?_ (x := lD [val _, sl .v _, val _, val _] ty_107)
 refine zfv ?_
 refine sc (fun hbb => ?_) (fun hbb => ?_)
 have hv : visV (s.Segments.getD i.toNat [])[k] t = true := by simpa using hbb
 refine sG [1, 2, 3, 6, 7, 9, 15, 16, 17] [3, 9] ?_
 refine rA ?_ (x := tM)
 refine zdu ?_
 refine zb5 ?_
 refine rA ?_ (x := tA)
 exact zg7
 have hv : visV (s.Segments.getD i.toNat [])[k] t = false := by simpa using hbb
 refine sw_skip ?_
 exact zg7
 have hend : k = (s.Segments.getD i.toNat []).length := by omega
 refine sw_exit ?_
 refine sT [1, 2, 3, 6, 7, 15, 16, 17] [3] ?_
 exact zb7
theorem impl_reclaimed {e : Engine}  (hb : wtEngine e ≤ 68719476736) : OCall Try.prog 27 [(true, [sl (.own 71 1) (e.Store.Segments.map (cVersionS (.own 107 4) (.own 3 1))), val (vI e.Store.Now), val (vI e.Cursor), sl (.own 3 1) (e.Order.map cInt), sl (.own 70 10) (e.Active.map (cActive (.own 41 3) (.own 3 1) (.own 3 1) (.own 45 2) (.own 3 1))), sl (.own 54 7) (e.Done.map (cFinished (.own 41 3) (.own 3 1) (.own 45 2) (.own 3 1))), sl (.own 73 5) (e.Ledger.map (cCharge (.own 3 1) (.own 3 1) (.own 3 1))), val (vI e.Steps)])] (resRV [(true, [sl (.own 71 1) ((reclaimE e).Store.Segments.map (cVersionS (.own 107 4) (.own 3 1))), val (vI (reclaimE e).Store.Now), val (vI (reclaimE e).Cursor), sl (.own 3 1) ((reclaimE e).Order.map cInt), sl (.own 70 10) ((reclaimE e).Active.map (cActive (.own 41 3) (.own 3 1) (.own 3 1) (.own 45 2) (.own 3 1))), sl (.own 54 7) ((reclaimE e).Done.map (cFinished (.own 41 3) (.own 3 1) (.own 45 2) (.own 3 1))), sl (.own 73 5) ((reclaimE e).Ledger.map (cCharge (.own 3 1) (.own 3 1) (.own 3 1))), val (vI (reclaimE e).Steps)])]) := by
 refine ocall_of (rs := [(true, [sl (.own 71 1) ((reclaimE e).Store.Segments.map (cVersionS (.own 107 4) (.own 3 1))), val (vI (reclaimE e).Store.Now), val (vI (reclaimE e).Cursor), sl (.own 3 1) ((reclaimE e).Order.map cInt), sl (.own 70 10) ((reclaimE e).Active.map (cActive (.own 41 3) (.own 3 1) (.own 3 1) (.own 45 2) (.own 3 1))), sl (.own 54 7) ((reclaimE e).Done.map (cFinished (.own 41 3) (.own 3 1) (.own 45 2) (.own 3 1))), sl (.own 73 5) ((reclaimE e).Ledger.map (cCharge (.own 3 1) (.own 3 1) (.own 3 1))), val (vI (reclaimE e).Steps)])]) Try.func27 rfl (nl rfl) ?_
 intro h0 w0 Fz0
 refine sn 0 0 fun hl0_0 => ?_
 refine sn 0 3 fun hl0_3 => ?_
 refine sn 0 4 fun hl0_4 => ?_
 refine sn 0 5 fun hl0_5 => ?_
 refine sn 0 6 fun hl0_6 => ?_
 have hbu := hb
 simp only [wtEngine, wtActiveS] at hbu
 refine zfi ?_
 refine sT [1, 2] [1, 2] ?_
 refine zfo ?_
 refine sw_seq ?_
 refine sS [1, 2, 3] [1, 2] ?_
 refine zeq ?_
 refine sP [1, 2, 3, 8, 9, 10] [1, 2] ?_
 refine sL [1, 2, 8, 9] [1, 2] (fun k : Nat => k ≤ e.Active.length) (fun k : Nat => [(3, RV.slc (.own 3 1) ((timesA (e.Active.take k)).map cInt)), (10, RV.int (k : Int))]) (fun k : Nat => []) (fun k : Nat => e.Active.length - k) 0 (by omega) (by exact aI (by exact rfl) (aI (by exact rfl) (tI))) (by exact ⟨⟩) ?_
 rintro k hk
 refine za5 ?_
 refine sc (fun hba => ?_) (fun hba => ?_)
 have hlt : k < e.Active.length := by omega
 have htl : (timesA (e.Active.take k)).length = k := by unfold timesA; rw [List.length_map, List.length_take]; omega
 have hts : timesA (e.Active.take (k + 1)) = timesA (e.Active.take k) ++ [e.Active[k].Time] := by unfold timesA; rw [map_take_succ hlt]
 refine za6 ?_
 refine sT [1, 2, 3, 8, 9, 10] [1, 2] ?_
 refine zer ?_
 refine zfk ?_
 refine sO [(1, _), (2, _), (3, _), (5, _), (8, _), (9, _), (10, _)] [(1, _), (2, _), (5, (70, [val _, val _, sl _ _, sl _ _, val _, sl _ _, val _, val _, val _, sl _ _]))] ?_
 refine sw_reg ?_
 refine rA ?_ (x := tM)
 refine zg8 ?_
 refine zfr ?_
 refine rA ?_ (x := tA)
 refine sG [1, 2, 3, 5, 8, 9, 10] [1, 2, 5] ?_
 refine zaa ?_
 refine nx (k + 1) (by omega) (e := (by exact aI (by exact slc_eq (by rw [hts, List.map_append]; rfl)) (aI (by exact rfl) (tI))))
 have hend : k = e.Active.length := by omega
 have hte : timesA (e.Active.take k) = timesA e.Active := by rw [hend, List.take_length]
 have htl : (timesA e.Active).length = e.Active.length := by unfold timesA; rw [List.length_map]
 rw [hte]
 refine sw_exit ?_
 refine sT [1, 2, 3, 8, 9, 10] [1, 2] ?_
 refine rA ?_ (x := lF fd_32_0)
 refine rA ?_ (x := lD [sl .v _, val _] ty_26)
 refine rA ?_ (x := vM false [sl .v _])
 refine rA ?_ (x := cL [(true, [sl _ _, val _]), (false, [sl _ _])] [(true, [sl .v _, val _]), (false, [sl .v _])] c_59 (hs := by exact (impl_ReclaimStore (s := e.Store) (keep := timesA e.Active) (by omega) (by omega))))
 refine rA ?_ (x := tM)
 refine zg9 ?_
 refine zga ?_
 refine sw_seq ?_
 refine sO [(1, _), (2, _), (3, _), (8, _), (9, _), (10, _)] [(1, (32, [sl _ _, val _, val _, sl _ _, sl _ _, sl _ _, sl _ _, val _])), (2, _)] ?_
 refine sw_reg ?_
 refine zfm ?_
 refine sw_ret ?_
 exact (Exists.intro 2 (Exists.intro _ (aI (by exact rfl) (aI (by exact rfl) (aI ty_32 (aI (fun h => nomatch h) tI))))))
end Go.Proofs.Ytmekkgdboplbjaa
