/- What functions of the program compute. No condition. -/
import Derived.Test.YteflgldonmgejaaGreatCZMRunAdaptive
import Derived.Test.YteflgldonmgejaaGreatCFcRunAdaptive
import Derived.Test.YteflgldonmgejaaGreatCQuerRunAdaptive
import Derived.Test.YteflgldonmgejaaGreatCJoinRunAdaptive
import Derived.Test.YteflgldonmgejaaGreatCEqPRunAdaptive
import Derived.Test.YteflgldonmgejaaGreatCDi
import Derived.KernelRfl
set_option linter.unusedVariables false
set_option linter.unusedSimpArgs false
namespace Go.Proofs.YteflgldonmgejaaGreat
open Go Go.RowKit M PV
set_option maxRecDepth 10000
attribute [local irreducible] PV.Lcl PV.LclR RV.Lcl
theorem FIdx_pl_234 : placesI Tryz.prog 234 = some [(0, 1), (1, 1), (2, 1)] := by kernel_rfl
theorem FIdx_pl_65 : placesI Tryz.prog 65 = some [(0, 1), (1, 1), (2, 1), (3, 1)] := by kernel_rfl
theorem spec_AreQueries {p1 p2 : Fl} {l : List Query}  : SCall Tryz.prog 179 [(false, [sl .v (l.map (cQuery p1 p2))])] (resRV [(false, [val (.bool (okQueries l))])]) := by
 refine sF Tryz.func179 fun h0 w0 Fz0 => ?_
 refine sj 0 fun hl0 => ?_
 refine zgd ?_
 refine zge ?_
 refine sL [0] [] (fun k : Nat => k ≤ l.length ∧ adjTo q0_ okQuery ltQ l k = true) (fun k : Nat => [(3, RV.int (k : Int))]) (fun k : Nat => []) (fun k : Nat => l.length - k) 0 (by exact ⟨by omega, rfl⟩) (by exact aI (by exact rfl) (tI)) (by exact ⟨⟩) ?_
 rintro k ⟨hk, ha⟩
 refine zae ?_
 refine zjn ?_
 refine sc (fun hba => ?_) (fun hba => ?_)
 have hlt : k < l.length := by omega
 have hgk : l.getD k q0_ = l[k] := getD_at hlt
 have hgp : 0 < k → l.getD (k - 1) q0_ = l[k - 1] := fun h => getD_at (by omega)
 refine zdx ?_
 refine sP [0, 3] [] ?_
 refine zi6 ?_
 refine dA 3 ?_ (x := loc_index (by decide) sl_89 (by exact ⟨⟩) (by exact rfl) (by exact getm2 (by omega) rfl) (by exact rfl))
 refine dA 7 ?_ (x := lE [val _, val _, sl .v _, sl .v _] ty_65)
 refine dA 15 ?_ (x := cL [(true, [val _, val _, sl _ _, sl _ _])] [(true, [val _, val _, sl .v _, sl .v _])] c_100 (hs := by exact spec_IsQuery))
 refine dA 31 ?_ (x := nT)
 refine dA 63 ?_ (x := sM)
 refine dx 16 (fun ga sga => ?_) (fun ga sga => ?_)
 refine dT 127 ga ?_
 refine dT 255 ga ?_
 refine dT 511 ga ?_
 refine dU 1023 ?_
 refine dU 1023 ?_
 refine dU 4095 ?_
 refine dU 8191 ?_
 refine dU 16383 ?_
 refine dU 1023 ?_
 refine dU 1023 ?_
 refine dU 66559 ?_
 refine dU 230399 ?_
 refine dU 492543 ?_
 refine dU 1016831 ?_
 refine dU 2097151 ?_
 refine zjo ?_
 refine scT ?_
 exact zjp
 refine dB 127 ga ?_ (x := sM)
 refine dB 255 ga ?_ (x := B_gtr)
 refine dB 511 ga ?_ (x := sM)
 refine dx 19 (fun gb sgb => ?_) (fun gb sgb => ?_)
 refine zj1 ?_
 refine dB 4095 gb ?_ (x := loc_index (by decide) sl_89 (by exact ⟨⟩) (by exact rfl) (by exact getm2 (by omega) rfl) (by exact rfl))
 refine dB 8191 gb ?_ (x := loc_efield (by decide) fd_65_0 (by exact nl rfl))
 refine dB 16383 gb ?_ (x := lE [val _] ty_3)
 refine zj1 ?_
 refine dB 66559 gb ?_ (x := B_sub)
 refine dB 230399 gb ?_ (x := loc_index (k := k - 1) (by decide) sl_89 (by exact ⟨⟩) (by omega) (by exact getm2 (by omega) rfl) (by exact rfl))
 refine dB 492543 gb ?_ (x := loc_efield (by decide) fd_65_0 (by exact nl rfl))
 refine dB 1016831 gb ?_ (x := lE [val _] ty_3)
 refine dB 2097151 gb ?_ (x := B_leq)
 refine dB 4194303 ga ?_ (x := pkT gb)
 refine dA 8388607 ?_ (x := pkF ga)
 refine sc (fun hbb => ?_) (fun hbb => ?_)
 exact zjp
 exact zjq
 refine zj3 ?_
 refine dF 4095 gb ?_
 refine dF 8191 gb ?_
 refine dF 16383 gb ?_
 refine zj3 ?_
 refine dF 66559 gb ?_
 refine dF 230399 gb ?_
 refine dF 492543 gb ?_
 refine dF 1016831 gb ?_
 refine dF 2097151 gb ?_
 refine dB 4194303 ga ?_ (x := pkF gb)
 refine dA 8388607 ?_ (x := pkF ga)
 refine scF ?_
 exact zjq
 have hend : k = l.length := by omega
 have hall : adjAll q0_ okQuery ltQ l = true := adj_end ha hend
 refine zgi ?_
 exact zjr
theorem spec_l5Admits {q : Query} {f : Int} {v : Int}  : SCall Tryz.prog 236 [(true, [val (vI q.Id), val (vI q.Tenant), sl .v (q.Conds.map cCond), sl .v (q.Out.map cInt)]), (false, [val (vI f)]), (false, [val (vI v)])] (resRV [(false, [val (.bool (admitsV q f v))])]) := by
 refine sF Tryz.func236 fun h0 w0 Fz0 => ?_
 refine sn 0 2 fun hl0_2 => ?_
 refine sn 0 3 fun hl0_3 => ?_
 refine zal ?_
 refine zee ?_
 refine sT [1, 2, 3, 6] [3] ?_
 refine zhx ?_
 refine sP [1, 2, 3, 6, 7] [3] ?_
 refine sL [1, 2, 3] [3] (fun k : Nat => k ≤ q.Conds.length ∧ (q.Conds.take k).all (admC f v) = true) (fun k : Nat => [(7, RV.int (k : Int))]) (fun k : Nat => []) (fun k : Nat => q.Conds.length - k) 0 (by exact ⟨by omega, by simp⟩) (by exact aI (by exact rfl) (tI)) (by exact ⟨⟩) ?_
 rintro k ⟨hk, ha⟩
 refine zg2 ?_
 refine zd5 ?_
 refine zcx ?_
 refine sc (fun hba => ?_) (fun hba => ?_)
 have hlt : k < q.Conds.length := by omega
 refine zdx ?_
 refine sQ [1, 2, 3, 7] [3] ?_
 refine sw_draw hm_ ?_
 refine dA 0 ?_ (x := lF fd_65_2)
 refine dA 1 ?_ (x := lD [sl .v _] ty_63)
 refine zh6 ?_
 refine dA 15 ?_ (x := loc_efield (by decide) fd_193_0 (by exact nl rfl))
 refine dA 31 ?_ (x := lE [val _] ty_3)
 refine dA 0 ?_ (x := sM)
 refine dA 127 ?_ (x := B_eql)
 refine dA 255 ?_ (x := sM)
 refine dx 23 (fun ga sga => ?_) (fun ga sga => ?_)
 refine dB 511 ga ?_ (x := sM)
 refine dB 511 ga ?_ (x := lF fd_65_2)
 refine dB 1535 ga ?_ (x := lD [sl .v _] ty_63)
 refine dB 511 ga ?_ (x := sM)
 refine dB 7679 ga ?_ (x := loc_index (by decide) sl_63 (by exact ⟨⟩) (by exact rfl) (by exact getm2 (by omega) rfl) (by exact rfl))
 refine dB 15871 ga ?_ (x := loc_efield (by decide) fd_193_1 (by exact nl rfl))
 refine dB 32255 ga ?_ (x := lE [val _] ty_3)
 refine dB 511 ga ?_ (x := lF fd_65_2)
 refine dB 66047 ga ?_ (x := lD [sl .v _] ty_63)
 refine dB 511 ga ?_ (x := sM)
 refine dB 459263 ga ?_ (x := loc_index (by decide) sl_63 (by exact ⟨⟩) (by exact rfl) (by exact getm2 (by omega) rfl) (by exact rfl))
 refine dB 983551 ga ?_ (x := loc_efield (by decide) fd_193_2 (by exact nl rfl))
 refine dB 2032127 ga ?_ (x := lE [val _] ty_3)
 refine dB 4194303 ga ?_ (x := cL [(false, [val _]), (false, [val _]), (false, [val _])] [(false, [val _]), (false, [val _]), (false, [val _])] c_97 (hs := by exact spec_l1In))
 refine dB 8388607 ga ?_ (x := nT)
 refine dA 16777215 ?_ (x := pkT ga)
 refine sc (fun hbb => ?_) (fun hbb => ?_)
 have hno : admC f v q.Conds[k] = false := by simp_all [admC]
 refine sS [1, 2, 3, 7] [3] ?_
 exact zjs
 exact zjt
 refine dF 511 ga ?_
 refine dF 511 ga ?_
 refine dF 1535 ga ?_
 refine dF 511 ga ?_
 refine dF 7679 ga ?_
 refine dF 15871 ga ?_
 refine dF 32255 ga ?_
 refine dF 511 ga ?_
 refine dF 66047 ga ?_
 refine dF 511 ga ?_
 refine dF 459263 ga ?_
 refine dF 983551 ga ?_
 refine dF 2032127 ga ?_
 refine dF 4194303 ga ?_
 refine dF 8388607 ga ?_
 refine dA 16777215 ?_ (x := pkF ga)
 refine scF ?_
 exact zjt
 have hall : q.Conds.all (admC f v) = true := all_end (by rw [show q.Conds.length = k by omega]; exact ha)
 refine sw_exit ?_
 refine sT [1, 2, 3, 7] [3] ?_
 exact zju
theorem spec_StabSet {p1 p2 : Fl} {l : List Query} {f : Int} {v : Int}  : SCall Tryz.prog 222 [(false, [sl .v (l.map (cQuery p1 p2))]), (false, [val (vI f)]), (false, [val (vI v)])] (resRV [(false, [sl (.own 3 1) ((stabSetF l f v).map cInt)])]) := by
 refine sF Tryz.func222 fun h0 w0 Fz0 => ?_
 refine sj 0 fun hl0 => ?_
 refine zaz ?_
 refine sS [0, 1, 2, 6] [] ?_
 refine zj4 ?_
 refine sS [0, 1, 2, 6, 7] [] ?_
 refine zhx ?_
 refine sP [0, 1, 2, 6, 7, 8] [] ?_
 refine sL [0, 1, 2, 6] [] (fun k : Nat => k ≤ l.length ∧ (0 < k → (okQueries l && (inB f 0 2 && inB v 0 99)) = true)) (fun k : Nat => [(7, RV.slc (.own 3 1) ((stabS (l.take k) f v).map cInt)), (8, RV.int (k : Int))]) (fun k : Nat => []) (fun k : Nat => l.length - k) 0 (by exact ⟨by omega, fun h => absurd h (Nat.lt_irrefl 0)⟩) (by exact aI (by exact rfl) (aI (by exact rfl) (tI))) (by exact ⟨⟩) ?_
 rintro k ⟨hk, ha⟩
 refine zae ?_
 refine zjn ?_
 refine rM ?_
 refine cx 14 (fun ga sga => ?_) (fun ga sga => ?_)
 refine rB ga ?_ (x := vM false [sl .v _])
 refine rB ga ?_ (x := cL [(false, [sl _ _])] [(false, [sl .v _])] c_179 (hs := by exact spec_AreQueries))
 refine zgy ?_
 refine cx 18 (fun gb sgb => ?_) (fun gb sgb => ?_)
 refine rB gb ?_ (x := sM)
 refine rB gb ?_ (x := cL [(false, [val _]), (false, [val _]), (false, [val _])] [(false, [val _]), (false, [val _]), (false, [val _])] c_97 (hs := by exact spec_l1In))
 refine zh0 ?_
 refine cx 22 (fun gc sgc => ?_) (fun gc sgc => ?_)
 refine rB gc ?_ (x := sM)
 refine zjv ?_
 refine sc (fun hba => ?_) (fun hba => ?_)
 have hok : (okQueries l && (inB f 0 2 && inB v 0 99)) = true := by simp_all
 have hok2 := okQs (Bool.and_eq_true_iff.1 hok).1
 have hlt : k < l.length := (by first | omega | (simp_all; done) | (simp_all; omega))
 have hsl := stabS_len (l.take k) f v
 rw [List.length_take] at hsl
 refine zed ?_
 refine sS [0, 1, 2, 6, 7, 8] [] ?_
 refine zgf ?_
 refine zjw ?_
 refine zfo ?_
 refine rA ?_ (x := cL [(true, [val _, val _, sl _ _, sl _ _]), (false, [val _]), (false, [val _])] [(true, [val _, val _, sl .v _, sl .v _]), (false, [val _]), (false, [val _])] c_236 (hs := by exact spec_l5Admits))
 refine sc (fun hbb => ?_) (fun hbb => ?_)
 have hc := hbb
 refine sG [0, 1, 2, 6, 7, 8] [] ?_
 refine zgt ?_
 refine zjx ?_
 refine zjy ?_
 exact zjz
 have hc := hbb
 refine sw_skip ?_
 exact zjz
 exact zk0
 refine zh2 ?_
 refine scF ?_
 exact zk0
 refine zh3 ?_
 refine rM ?_
 refine RunS.cases (s := 22) rfl (fun g7 => nomatch g7) (fun g7 => ?_)
 refine zf g7 ?_
 refine rA ?_ (x := pkF g7)
 refine scF ?_
 exact zk0
 refine zh4 ?_
 refine RunS.cases (s := 18) rfl (fun g9 => nomatch g9) (fun g9 => ?_)
 refine zf g9 ?_
 refine rA ?_ (x := pkF g9)
 refine rM ?_
 refine RunS.cases (s := 22) rfl (fun g10 => nomatch g10) (fun g10 => ?_)
 refine zf g10 ?_
 refine rA ?_ (x := pkF g10)
 refine scF ?_
 exact zk0
theorem spec_StabIndex {p1 p2 : Fl} {l : List Query} {f : Int}  : SCall Tryz.prog 181 [(false, [sl .v (l.map (cQuery p1 p2))]), (false, [val (vI f)])] (resRV [(false, [sl (.own 234 3) ((stabIdx l f).map (cSpan (.own 3 1)))])]) := by
 refine scall_lo (largs := fun L => [(false, [sl (.lo L) (l.map (cQuery (.lo L) (.lo L)))]), (false, [val (vI f)])]) (rs := [(false, [sl (.own 234 3) ((stabIdx l f).map (cSpan (.own 3 1)))])]) Tryz.func181 rfl (nl rfl) (fun L => by exact (aI (aI rfl (ToBL.cons (PV.tob_map (fun _ => nl rfl) (fun _ => (ToBL.cons PV.tob_refl (ToBL.cons PV.tob_refl (ToBL.cons (PV.tob_map (fun _ => nl rfl) (fun _ => (ToBL.cons PV.tob_refl (ToBL.cons PV.tob_refl (ToBL.cons PV.tob_refl ToBL.nil))))) (ToBL.cons (PV.tob_map (fun _ => nl rfl) (fun _ => (ToBL.cons PV.tob_refl ToBL.nil))) ToBL.nil)))))) ToBL.nil)) (aI (aI rfl (ToBL.cons PV.tob_refl ToBL.nil)) tI))) (fun L => by exact lq) ?_
 intro w0 Fz0
 refine sj 0 fun hl0 => ?_
 refine sR ?_
 refine zk1 ?_
 refine zi5 ?_
 refine sS [0, 1, 4, 5] [] ?_
 refine rA ?_ (x := vM false [sl (.lo _) _])
 refine rA ?_ (x := cL [(false, [sl (.lo _) _])] [(false, [sl .v _])] c_179 (hs := by exact spec_AreQueries))
 refine zha ?_
 refine cx 13 (fun ga sga => ?_) (fun ga sga => ?_)
 exact zk2
 refine rB ga ?_ (x := sM)
 refine zk3 ?_
 refine sc (fun hba => ?_) (fun hba => ?_)
 exact zk4
 have hok : (okQueries l && inB f 0 2) = true := by simp_all
 obtain ⟨hq, hf⟩ := Bool.and_eq_true_iff.1 hok
 have hq2 := okQs hq
 refine zf2 ?_
 refine zjd ?_
 refine zk5 ?_
 rintro k hk
 refine zg2 ?_
 refine rA ?_ (x := B_leq)
 refine sc (fun hbb => ?_) (fun hbb => ?_)
 have hlt : k < 100 := by omega
 have hse : stabSetF l f (k : Int) = stabS l f (k : Int) := if_pos (by rw [hq, hf]; simp [inB]; omega)
 have hsl := spans_len l f k
 have hss := stabS_len l f (k : Int)
 refine zje ?_
 refine rA ?_ (x := vM false [sl (.lo _) _])
 refine zfo ?_
 refine rA ?_ (x := cL [(false, [sl (.lo _) _]), (false, [val _]), (false, [val _])] [(false, [sl .v _]), (false, [val _]), (false, [val _])] c_222 (hs := by exact (spec_StabSet (l := l) (f := f) (v := (k : Int)))))
 refine rA ?_ (x := tA)
 refine sS [0, 1, 4, 5, 6, 7] [] ?_
 refine zk6 ?_
 refine rS ?_
 refine sS [0, 1, 4, 5, 6, 7, 8] [] ?_
 refine rM ?_
 refine rA ?_ (x := B_gtr)
 refine rM ?_
 refine cx 31 (fun gb sgb => ?_) (fun gb sgb => ?_)
 refine rB gb ?_ (x := vM false [sl .v _])
 refine zk7 ?_
 refine zk8 ?_
 refine rB gb ?_ (x := lE [sl .v _] ty_25)
 refine rB gb ?_ (x := vM false [sl .v _])
 refine rB gb ?_ (x := cL [(false, [sl _ _]), (false, [sl _ _])] [(false, [sl .v _]), (false, [sl .v _])] c_223 (hs := by exact spec_l2Ints))
 refine rA ?_ (x := pkT gb)
 refine sc (fun hbc => ?_) (fun hbc => ?_)
 have hls : lastIs (spansTo l f k) (stabS l f (k : Int)) = true := lastIs_yes (by omega) (by rw [← hse]; simpa using hbc)
 have hl1 : (spansTo l f k).length - 1 < (spansTo l f k).length := by omega
 refine sP [0, 1, 4, 5, 6, 7, 8] [] ?_
 refine sw_thawS (s := 5) (D := 900) (G := 2900) (E := 234) (e := 3) (L := (Lw w0.heap.size)) (es := ((spansTo l f k)).map (cSpan (.own 3 1))) (by exact rfl) (map_ne hl1) (by exact rfl) (by exact rfl) rfl (by exact rfl) (fun x hx => hx) (by exact lq) (by exact ⟨⟩) (LclC.map fun x => (LclC.cons lcl_val (LclC.cons lcl_val (LclC.cons (lcl_own (LclC.map fun x => (LclC.cons lcl_val LclC.nil))) LclC.nil)))) fun uu900 cp900 jk900 hlD900 hcp900 hjk900 => ?_
 rw [List.length_map] at hlD900 hcp900 hjk900
 refine sw_boxEq (d := 900) (by exact rfl) (at_split (k := ((spansTo l f k).length - 1)) hl1) ?_
 have hA900 := at_len (f := (cSpan (.own 3 1))) (e := 3) (xs := (spansTo l f k)) (k := ((spansTo l f k).length - 1)) (fun _ => rfl) (Nat.le_of_lt hl1)
 refine zk9 ?_
 refine rA ?_ (x := vM false [val _])
 refine rM ?_
 refine rA ?_ (x := B_sub)
 refine rM ?_
 refine zka ?_
 refine zkb ?_
 refine sG [0, 1, 4, 5, 6, 7, 8] [] ?_
 exact zkc
 exact zkd
 refine zh3 ?_
 refine scF ?_
 exact zkd
 exact zke
theorem spec_FindSpan {p1 : Fl} {l : List Span} {v : Int}  (hs : ∀ s ∈ l, s.Set.length ≤ 1048576) : SCall Tryz.prog 184 [(false, [sl .v (l.map (cSpan p1))]), (false, [val (vI v)])] (resRV [(false, [sl (.own 3 1) ((findSpan l v).map cInt)])]) := by
 refine sF Tryz.func184 fun h0 w0 Fz0 => ?_
 refine sj 0 fun hl0 => ?_
 refine zaz ?_
 refine sw_seq ?_
 refine zkf ?_
 refine sL [0, 1] [] (fun k : Nat => k ≤ l.length ∧ (l.take k).any (inSpan v) = false) (fun k : Nat => [(5, RV.int (k : Int))]) (fun k : Nat => []) (fun k : Nat => l.length - k) 0 (by exact ⟨by omega, by simp⟩) (by exact aI (by exact rfl) (tI)) (by exact ⟨⟩) ?_
 rintro k ⟨hk, ha⟩
 refine zae ?_
 refine rA ?_ (x := lN sl_205)
 refine rA ?_ (x := B_lss)
 refine sc (fun hba => ?_) (fun hba => ?_)
 have hlt : k < l.length := by omega
 refine zdx ?_
 refine sP [0, 1, 5] [] ?_
 refine sw_draw hm_ ?_
 refine dA 0 ?_ (x := sM)
 refine zck ?_
 refine dA 6 ?_ (x := loc_index (by decide) sl_205 (by exact ⟨⟩) (by exact rfl) (by exact getm2 (by omega) rfl) (by exact rfl))
 refine dA 14 ?_ (x := loc_efield (by decide) fd_234_0 (by exact nl rfl))
 refine zkg ?_
 refine dA 192 ?_ (x := loc_index (by decide) sl_205 (by exact ⟨⟩) (by exact rfl) (by exact getm2 (by omega) rfl) (by exact rfl))
 refine dA 448 ?_ (x := loc_efield (by decide) fd_234_1 (by exact nl rfl))
 refine dA 960 ?_ (x := lE [val _] ty_3)
 refine dA 2047 ?_ (x := cL [(false, [val _]), (false, [val _]), (false, [val _])] [(false, [val _]), (false, [val _]), (false, [val _])] c_97 (hs := by exact spec_l1In))
 refine sc (fun hbb => ?_) (fun hbb => ?_)
 have hy : inSpan v l[k] = true := by simpa [inSpan] using hbb
 have hst := hs l[k] (List.getElem_mem hlt)
 refine sS [0, 1, 5] [] ?_
 refine rA ?_ (x := loc_bslice (qs := []) (by decide) sl_25 z_3 (by decide) rfl rfl rfl rfl rfl (by exact nl rfl) (by exact ⟨⟩) rfl)
 refine zgf ?_
 refine rA ?_ (x := loc_index (by decide) sl_205 (by exact ⟨⟩) (by exact rfl) (by exact getm2 (by omega) rfl) (by exact rfl))
 refine rA ?_ (x := loc_efield (by decide) fd_234_2 (by exact nl rfl))
 refine rA ?_ (x := lE [sl .v _] ty_25)
 refine rA ?_ (x := loc_appendb (by decide) sl_25 z_3 rfl rfl (by decide) (by first | (intro cs hcs; obtain ⟨x, _, rfl⟩ := List.mem_map.1 hcs; exact rfl) | simp) (by first | (intro cs hcs; obtain ⟨x, _, rfl⟩ := List.mem_map.1 hcs; exact (BorL.cons (bor_val _) BorL.nil)) | simp) (by simp only [List.length_map, List.length_append, List.length_cons, List.length_nil]; omega) (by simp only [List.length_map, List.length_append, List.length_cons, List.length_nil]; omega))
 refine rA ?_ (x := tA)
 refine sw_ret ?_
 exact (aI (by refine slc_eq ?_; rw [find_yes hlt ha hy]; exact rfl) tI)
 have hno : inSpan v l[k] = false := by simpa [inSpan] using hbb
 refine sw_skip ?_
 refine sG [0, 1, 5] [] ?_
 exact zkh
 have hend : k = l.length := by omega
 rw [hend, List.take_length] at ha
 refine zfj ?_
 refine zki ?_
 exact zkj
theorem spec_EqualSpans {p1 p3 : Fl} {x : List Span} {y : List Span}  : SCall Tryz.prog 182 [(false, [sl .v (x.map (cSpan p1))]), (false, [sl .v (y.map (cSpan p3))])] (resRV [(false, [val (.bool (deq x y))])]) := by
 refine sF Tryz.func182 fun h0 w0 Fz0 => ?_
 refine sj 0 fun hl0 => ?_
 refine sj 1 fun hl1 => ?_
 refine zcw ?_
 refine rA ?_ (x := lN sl_205)
 refine zk6 ?_
 refine rA ?_ (x := B_neq)
 refine sc (fun hba => ?_) (fun hba => ?_)
 exact zjh
 have hl : x.length = y.length := by omega
 refine zch ?_
 rintro k ⟨hk, ha⟩
 refine zae ?_
 refine rA ?_ (x := lN sl_205)
 refine rA ?_ (x := B_lss)
 refine sc (fun hbb => ?_) (fun hbb => ?_)
 have hlt : k < x.length := by omega
 have hlt2 : k < y.length := by omega
 refine zci ?_
 refine dA 3 ?_ (x := loc_index (by decide) sl_205 (by exact ⟨⟩) (by exact rfl) (by exact getm2 (by omega) rfl) (by exact rfl))
 refine dA 7 ?_ (x := loc_efield (by decide) fd_234_0 (by exact nl rfl))
 refine dA 15 ?_ (x := lE [val _] ty_3)
 refine zck ?_
 refine dA 96 ?_ (x := loc_index (by decide) sl_205 (by exact ⟨⟩) (by exact rfl) (by exact getm2 (by omega) rfl) (by exact rfl))
 refine dA 224 ?_ (x := loc_efield (by decide) fd_234_0 (by exact nl rfl))
 refine dA 480 ?_ (x := lE [val _] ty_3)
 refine dA 1023 ?_ (x := B_neq)
 refine dA 2047 ?_ (x := sM)
 refine dx 28 (fun ga sga => ?_) (fun ga sga => ?_)
 refine dT 4095 ga ?_
 refine dT 4095 ga ?_
 refine dT 16383 ga ?_
 refine dT 32767 ga ?_
 refine dT 65535 ga ?_
 refine dT 4095 ga ?_
 refine dT 4095 ga ?_
 refine dT 397311 ga ?_
 refine dT 921599 ga ?_
 refine dT 1970175 ga ?_
 refine zjo ?_
 refine dA 16777215 ?_ (x := sM)
 refine Run.cases (s := 41) rfl (fun g4 => ?_) (fun g4 => nomatch g4)
 refine dT 33554431 g4 ?_
 refine dT 33554431 g4 ?_
 refine dT 134217727 g4 ?_
 refine dT 268435455 g4 ?_
 refine dT 536870911 g4 ?_
 refine dT 33554431 g4 ?_
 refine dT 33554431 g4 ?_
 refine dT 3254779903 g4 ?_
 refine dT 7549747199 g4 ?_
 refine dT 16139681791 g4 ?_
 refine dT 34359738367 g4 ?_
 refine dT 68719476735 g4 ?_
 refine dA 137438953471 ?_ (x := pkT g4)
 refine scT ?_
 exact zji
 refine dB 4095 ga ?_ (x := vM false [sl .v _])
 refine dB 4095 ga ?_ (x := sM)
 refine dB 16383 ga ?_ (x := loc_index (by decide) sl_205 (by exact ⟨⟩) (by exact rfl) (by exact getm2 (by omega) rfl) (by exact rfl))
 refine dB 32767 ga ?_ (x := loc_efield (by decide) fd_234_1 (by exact nl rfl))
 refine dB 65535 ga ?_ (x := lE [val _] ty_3)
 refine dB 4095 ga ?_ (x := vM false [sl .v _])
 refine dB 4095 ga ?_ (x := sM)
 refine dB 397311 ga ?_ (x := loc_index (by decide) sl_205 (by exact ⟨⟩) (by exact rfl) (by exact getm2 (by omega) rfl) (by exact rfl))
 refine dB 921599 ga ?_ (x := loc_efield (by decide) fd_234_1 (by exact nl rfl))
 refine dB 1970175 ga ?_ (x := lE [val _] ty_3)
 refine dB 4194303 ga ?_ (x := B_neq)
 refine dA 8388607 ?_ (x := pkF ga)
 refine dA 16777215 ?_ (x := sM)
 refine dx 41 (fun gb sgb => ?_) (fun gb sgb => ?_)
 refine dT 33554431 gb ?_
 refine dT 33554431 gb ?_
 refine dT 134217727 gb ?_
 refine dT 268435455 gb ?_
 refine dT 536870911 gb ?_
 refine dT 33554431 gb ?_
 refine dT 33554431 gb ?_
 refine dT 3254779903 gb ?_
 refine dT 7549747199 gb ?_
 refine dT 16139681791 gb ?_
 refine dT 34359738367 gb ?_
 refine dT 68719476735 gb ?_
 refine dA 137438953471 ?_ (x := pkT gb)
 refine scT ?_
 exact zji
 refine dB 33554431 gb ?_ (x := vM false [sl .v _])
 refine dB 33554431 gb ?_ (x := sM)
 refine dB 134217727 gb ?_ (x := loc_index (by decide) sl_205 (by exact ⟨⟩) (by exact rfl) (by exact getm2 (by omega) rfl) (by exact rfl))
 refine dB 268435455 gb ?_ (x := loc_efield (by decide) fd_234_2 (by exact nl rfl))
 refine dB 536870911 gb ?_ (x := lE [sl .v _] ty_25)
 refine dB 33554431 gb ?_ (x := vM false [sl .v _])
 refine dB 33554431 gb ?_ (x := sM)
 refine dB 3254779903 gb ?_ (x := loc_index (by decide) sl_205 (by exact ⟨⟩) (by exact rfl) (by exact getm2 (by omega) rfl) (by exact rfl))
 refine dB 7549747199 gb ?_ (x := loc_efield (by decide) fd_234_2 (by exact nl rfl))
 refine dB 16139681791 gb ?_ (x := lE [sl .v _] ty_25)
 refine dB 34359738367 gb ?_ (x := cL [(false, [sl _ _]), (false, [sl _ _])] [(false, [sl .v _]), (false, [sl .v _])] c_223 (hs := by exact spec_l2Ints))
 refine dB 68719476735 gb ?_ (x := nT)
 refine dA 137438953471 ?_ (x := pkF gb)
 refine sc (fun hbc => ?_) (fun hbc => ?_)
 exact zji
 refine zaj ?_
 exact zkk
 exact zco
theorem spec_l6Query {x : Query}  (hb : wtQuery x ≤ 68719476736) : SCall Tryz.prog 139 [(true, [val (vI x.Id), val (vI x.Tenant), sl .v (x.Conds.map cCond), sl .v (x.Out.map cInt)])] (resRV [(true, [val (vI x.Id), val (vI x.Tenant), sl (.own 193 3) (x.Conds.map cCond), sl (.own 3 1) (x.Out.map cInt)])]) := by
 refine sF Tryz.func139 fun h0 w0 Fz0 => ?_
 refine sn 0 2 fun hl0_2 => ?_
 refine sn 0 3 fun hl0_3 => ?_
 have hbu := hb
 simp only [wtQuery, wtIntS_len, wtInt, wtCondS] at hbu
 refine zbm ?_
 refine zgk ?_
 refine dA 0 ?_ (x := lF fd_65_0)
 refine dA 1 ?_ (x := lD [val _] ty_3)
 refine dA 0 ?_ (x := lF fd_65_1)
 refine dA 4 ?_ (x := lD [val _] ty_3)
 refine dA 0 ?_ (x := loc_bslice (qs := []) (by decide) sl_63 z_193 (by decide) rfl rfl rfl rfl rfl (by exact nl rfl) (by exact ⟨⟩) rfl)
 refine dA 0 ?_ (x := lF fd_65_2)
 refine dA 32 ?_ (x := lD [sl .v _] ty_63)
 refine dA 112 ?_ (x := loc_appendb (by decide) sl_63 z_193 rfl rfl (by decide) (by first | (intro cs hcs; obtain ⟨x, _, rfl⟩ := List.mem_map.1 hcs; exact rfl) | simp) (by first | (intro cs hcs; obtain ⟨x, _, rfl⟩ := List.mem_map.1 hcs; exact (BorL.cons (bor_val _) (BorL.cons (bor_val _) (BorL.cons (bor_val _) BorL.nil)))) | simp) (by simp only [List.length_map, List.length_append, List.length_cons, List.length_nil]; omega) (by simp only [List.length_map, List.length_append, List.length_cons, List.length_nil]; omega))
 refine dA 0 ?_ (x := loc_bslice (qs := []) (by decide) sl_25 z_3 (by decide) rfl rfl rfl rfl rfl (by exact nl rfl) (by exact ⟨⟩) rfl)
 refine dA 0 ?_ (x := lF fd_65_3)
 refine zkl ?_
 refine dA 4095 ?_ (x := loc_build (qs := [(false, [val _]), (false, [val _]), (false, [sl _ _]), (false, [sl _ _])]) (cs := [val _, val _, sl _ _, sl _ _]) (by decide) z_65 zo_65 FIdx_pl_65 (by exact rfl) (by exact (aI (by exact ⟨⟩) (aI (by exact ⟨⟩) (aI (by exact ⟨⟩) (aI (by exact ⟨⟩) tI))))) rfl (by exact rfl))
 refine dA 8191 ?_ (x := loc_store (ag := true) (vs := [val _, val _, sl _ _, sl _ _]) ty_65 (by exact ⟨⟩) (by exact rfl) (by exact nl rfl))
 exact zkm
theorem spec_l6Queries {p1 p2 : Fl} {x : List Query}  (hb : wtQueryS x ≤ 68719476736) : SCall Tryz.prog 180 [(false, [sl .v (x.map (cQuery p1 p2))])] (resRV [(false, [sl (.own 65 4) (x.map (cQuery (.own 193 3) (.own 3 1)))])]) := by
 refine sF Tryz.func180 fun h0 w0 Fz0 => ?_
 refine sj 0 fun hl0 => ?_
 have hbu := hb
 simp only [wtQueryS] at hbu
 refine sR ?_
 refine zkn ?_
 refine zko ?_
 refine zgo ?_
 refine zgs ?_
 refine sL [0, 2] [] (fun k : Nat => k ≤ x.length) (fun k : Nat => [(3, RV.slc (.own 65 4) ((x.take k).map (cQuery (.own 193 3) (.own 3 1)))), (4, RV.int (k : Int))]) (fun k : Nat => []) (fun k : Nat => x.length - k) 0 (by omega) (by exact aI (by first | exact rfl | simp) (aI (by exact rfl) (tI))) (by exact ⟨⟩) ?_
 rintro k hk
 refine zae ?_
 refine zjn ?_
 refine sc (fun hba => ?_) (fun hba => ?_)
 have hlt : k < x.length := by omega
 have hwm := wt_mem (f := wtQuery) hlt
 have htl : (x.take k).length = k := by rw [List.length_take]; omega
 refine zed ?_
 refine sS [0, 2, 3, 4] [] ?_
 refine zgf ?_
 refine zjw ?_
 refine rA ?_ (x := cL [(true, [val _, val _, sl _ _, sl _ _])] [(true, [val _, val _, sl .v _, sl .v _])] c_139 (hs := by exact spec_l6Query (by omega)))
 refine zkp ?_
 refine sH [0, 2, 3, 4, 5] [5] ?_
 refine rA ?_ (x := tM)
 refine rA ?_ (x := loc_ltake (ms := [val _, val _, sl _ _, sl _ _]) (qs := [val _, val _, sl .v _, sl .v _]) (by decide) ty_65 (fun h => nomatch h) (by exact nl rfl) (by exact rfl) (by exact (ToL.cons (PV.To.refl _) (ToL.cons (PV.To.refl _) (ToL.cons PV.to_none (ToL.cons PV.to_none ToL.nil))))) (by exact lq))
 refine zkq ?_
 refine rA ?_ (x := tA)
 refine sH [0, 2, 3, 4, 5] [5] ?_
 exact zgu
 exact zgv
end Go.Proofs.YteflgldonmgejaaGreat
