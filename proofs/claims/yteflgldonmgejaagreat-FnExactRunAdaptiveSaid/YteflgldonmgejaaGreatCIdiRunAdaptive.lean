/- What functions of the program compute. No condition. -/
import Derived.Test.YteflgldonmgejaaGreatCZMRunAdaptive
import Derived.Test.YteflgldonmgejaaGreatCFcRunAdaptive
import Derived.Test.YteflgldonmgejaaGreatCIdbRunAdaptive
import Derived.KernelRfl
set_option linter.unusedVariables false
set_option linter.unusedSimpArgs false
namespace Go.Proofs.YteflgldonmgejaaGreat
open Go Go.RowKit M PV
set_option maxRecDepth 10000
attribute [local irreducible] PV.Lcl PV.LclR RV.Lcl
theorem FIdi_pl_234 : placesI Tryz.prog 234 = some [(0, 1), (1, 1), (2, 1)] := by kernel_rfl
theorem FIdi_pl_92 : placesI Tryz.prog 92 = some [(0, 1), (1, 1)] := by kernel_rfl
theorem impl_AreQueries {p1 p2 : Fl} {l : List Query}  : SCall Tryz.prog 195 [(false, [sl .v (l.map (cQuery p1 p2))])] (resRV [(false, [val (.bool (okQueries l))])]) := by
 refine sF Tryz.func195 fun h0 w0 Fz0 => ?_
 refine sj 0 fun hl0 => ?_
 refine zcd ?_
 refine zbg ?_
 refine rA ?_ (x := lN sl_89)
 refine zfl ?_
 refine sP [0, 2, 5, 6, 7] [] ?_
 refine sL [0, 5, 6] [] (fun k : Nat => k ≤ l.length ∧ adjTo q0_ okQuery ltQ l k = true) (fun k : Nat => [(7, RV.int (k : Int))]) (fun k : Nat => []) (fun k : Nat => l.length - k) 0 (by exact ⟨by omega, rfl⟩) (by exact aI (by exact rfl) (tI)) (by exact ⟨⟩) ?_
 rintro k ⟨hk, ha⟩
 refine zfm ?_
 refine sc (fun hba => ?_) (fun hba => ?_)
 have hlt : k < l.length := by omega
 have hgk : l.getD k q0_ = l[k] := getD_at hlt
 have hgp : 0 < k → l.getD (k - 1) q0_ = l[k - 1] := fun h => getD_at (by omega)
 refine zed ?_
 refine sS [0, 5, 6, 7] [] ?_
 refine rM ?_
 refine zjw ?_
 refine rX ?_ (x := (loc_alloc (by decide) z_65 zo_65))
 refine rS ?_
 refine zbu ?_
 refine sQ [0, 3, 4, 5, 6, 7] [4] ?_
 refine sw_draw hm_ ?_
 refine dA 0 ?_ (x := lD [val _, val _, sl .v _, sl .v _] ty_65)
 refine dA 1 ?_ (x := cL [(true, [val _, val _, sl _ _, sl _ _])] [(true, [val _, val _, sl .v _, sl .v _])] c_117 (hs := by exact impl_IsQuery))
 refine dA 3 ?_ (x := nT)
 refine dA 7 ?_ (x := sM)
 refine dx 15 (fun ga sga => ?_) (fun ga sga => ?_)
 refine dT 15 ga ?_
 refine dT 31 ga ?_
 refine dT 63 ga ?_
 refine dU 127 ?_
 refine dU 127 ?_
 refine dU 383 ?_
 refine dU 1023 ?_
 refine dU 2047 ?_
 refine dU 4095 ?_
 refine dU 127 ?_
 refine dU 8319 ?_
 refine dU 32767 ?_
 refine dT 65535 ga ?_
 refine dA 131071 ?_ (x := pkT ga)
 refine scT ?_
 exact zmk
 refine dB 15 ga ?_ (x := sM)
 refine dB 31 ga ?_ (x := B_gtr)
 refine dB 63 ga ?_ (x := sM)
 refine dx 18 (fun gb sgb => ?_) (fun gb sgb => ?_)
 refine dB 127 gb ?_ (x := vM false [sl .v _])
 refine dB 127 gb ?_ (x := sM)
 refine dB 383 gb ?_ (x := B_sub)
 refine dB 1023 gb ?_ (x := loc_index (k := k - 1) (by decide) sl_89 (by exact ⟨⟩) (by omega) (by exact getm2 (by omega) rfl) (by exact rfl))
 refine dB 2047 gb ?_ (x := loc_efield (by decide) fd_65_0 (by exact nl rfl))
 refine dB 4095 gb ?_ (x := lE [val _] ty_3)
 refine dB 127 gb ?_ (x := lF fd_65_0)
 refine dB 8319 gb ?_ (x := lD [val _] ty_3)
 refine dB 32767 gb ?_ (x := B_geq)
 refine dB 65535 ga ?_ (x := pkT gb)
 refine dA 131071 ?_ (x := pkF ga)
 refine sc (fun hbb => ?_) (fun hbb => ?_)
 exact zmk
 exact zml
 refine dF 127 gb ?_
 refine dF 127 gb ?_
 refine dF 383 gb ?_
 refine dF 1023 gb ?_
 refine dF 2047 gb ?_
 refine dF 4095 gb ?_
 refine dF 127 gb ?_
 refine dF 8319 gb ?_
 refine dF 32767 gb ?_
 refine dB 65535 ga ?_ (x := pkF gb)
 refine dA 131071 ?_ (x := pkF ga)
 refine scF ?_
 exact zml
 have hend : k = l.length := by omega
 have hall : adjAll q0_ okQuery ltQ l = true := adj_end ha hend
 refine sw_exit ?_
 refine sS [0, 5, 6, 7] [] ?_
 exact zjr
theorem impl_admits {q : Query} {f : Int} {v : Int}  : SCall Tryz.prog 210 [(true, [val (vI q.Id), val (vI q.Tenant), sl .v (q.Conds.map cCond), sl .v (q.Out.map cInt)]), (false, [val (vI f)]), (false, [val (vI v)])] (resRV [(false, [val (.bool (admitsV q f v))])]) := by
 refine sF Tryz.func210 fun h0 w0 Fz0 => ?_
 refine sn 0 2 fun hl0_2 => ?_
 refine sn 0 3 fun hl0_3 => ?_
 refine zal ?_
 refine zee ?_
 refine sT [1, 2, 3, 6] [3] ?_
 refine zd5 ?_
 refine rA ?_ (x := lN sl_63)
 refine zfl ?_
 refine sP [1, 2, 3, 6, 10, 11, 12] [3] ?_
 refine sL [1, 2, 3, 10, 11] [3] (fun k : Nat => k ≤ q.Conds.length ∧ (q.Conds.take k).all (admC f v) = true) (fun k : Nat => [(12, RV.int (k : Int))]) (fun k : Nat => []) (fun k : Nat => q.Conds.length - k) 0 (by exact ⟨by omega, by simp⟩) (by exact aI (by exact rfl) (tI)) (by exact ⟨⟩) ?_
 rintro k ⟨hk, ha⟩
 refine zfm ?_
 refine sc (fun hba => ?_) (fun hba => ?_)
 have hlt : k < q.Conds.length := by omega
 refine zed ?_
 refine sT [1, 2, 3, 10, 11, 12] [3] ?_
 refine zhi ?_
 refine rX ?_ (x := (loc_alloc (by decide) z_193 zo_193))
 refine zhj ?_
 refine sO [(1, _), (2, _), (3, _), (8, _), (10, _), (11, _), (12, _)] [(3, _), (8, (193, [val _, val _, val _]))] ?_
 refine sw_reg ?_
 refine zcq ?_
 refine rM ?_
 refine zio ?_
 refine cx 20 (fun ga sga => ?_) (fun ga sga => ?_)
 refine rB ga ?_ (x := sM)
 refine zgx ?_
 refine rB ga ?_ (x := lF fd_193_2)
 refine zhe ?_
 refine rA ?_ (x := pkT ga)
 refine sc (fun hbb => ?_) (fun hbb => ?_)
 have hno : admC f v q.Conds[k] = false := by simp_all [admC]
 refine sS [1, 2, 3, 8, 10, 11, 12] [3, 8] ?_
 exact zjs
 exact zmm
 refine zfz ?_
 refine scF ?_
 exact zmm
 have hall : q.Conds.all (admC f v) = true := all_end (by rw [show q.Conds.length = k by omega]; exact ha)
 refine sw_exit ?_
 refine sT [1, 2, 3, 10, 11, 12] [3] ?_
 exact zju
theorem impl_stab {p1 p2 : Fl} {l : List Query} {f : Int} {v : Int}  (hb : l.length ≤ 1048576) : SCall Tryz.prog 225 [(false, [sl .v (l.map (cQuery p1 p2))]), (false, [val (vI f)]), (false, [val (vI v)])] (resRV [(false, [sl (.own 3 1) ((stabS l f v).map cInt)])]) := by
 refine sF Tryz.func225 fun h0 w0 Fz0 => ?_
 refine sj 0 fun hl0 => ?_
 refine zaz ?_
 refine sS [0, 1, 2, 6] [] ?_
 refine zj4 ?_
 refine sS [0, 1, 2, 6, 7] [] ?_
 refine zmn ?_
 refine zfl ?_
 refine sP [0, 1, 2, 6, 7, 11, 12, 13] [] ?_
 refine sL [0, 1, 2, 6, 11, 12] [] (fun k : Nat => k ≤ l.length) (fun k : Nat => [(7, RV.slc (.own 3 1) ((stabS (l.take k) f v).map cInt)), (13, RV.int (k : Int))]) (fun k : Nat => []) (fun k : Nat => l.length - k) 0 (by omega) (by exact aI (by exact rfl) (aI (by exact rfl) (tI))) (by exact ⟨⟩) ?_
 rintro k hk
 refine zfm ?_
 refine sc (fun hba => ?_) (fun hba => ?_)
 have hlt : k < l.length := by omega
 have hsl := stabS_len (l.take k) f v
 rw [List.length_take] at hsl
 refine zed ?_
 refine sS [0, 1, 2, 6, 7, 11, 12, 13] [] ?_
 refine zjw ?_
 refine zkp ?_
 refine sT [0, 1, 2, 6, 7, 9, 11, 12, 13] [9] ?_
 refine rA ?_ (x := lD [val _, val _, sl .v _, sl .v _] ty_65)
 refine rM ?_
 refine zmo ?_
 refine sc (fun hbb => ?_) (fun hbb => ?_)
 have hc := hbb
 refine sG [0, 1, 2, 6, 7, 9, 11, 12, 13] [9] ?_
 refine rA ?_ (x := tM)
 refine zd4 ?_
 refine zj6 ?_
 exact zmp
 have hc := hbb
 refine sw_skip ?_
 exact zmp
 have hend : k = l.length := by omega
 refine sw_exit ?_
 refine sS [0, 1, 2, 6, 7, 11, 12, 13] [] ?_
 exact zmq
theorem impl_StabIndex {p1 p2 : Fl} {l : List Query} {f : Int}  : SCall Tryz.prog 197 [(false, [sl .v (l.map (cQuery p1 p2))]), (false, [val (vI f)])] (resRV [(false, [sl (.own 234 3) ((stabIdx l f).map (cSpan (.own 3 1)))])]) := by
 refine scall_lo (largs := fun L => [(false, [sl (.lo L) (l.map (cQuery (.lo L) (.lo L)))]), (false, [val (vI f)])]) (rs := [(false, [sl (.own 234 3) ((stabIdx l f).map (cSpan (.own 3 1)))])]) Tryz.func197 rfl (nl rfl) (fun L => by exact (aI (aI rfl (ToBL.cons (PV.tob_map (fun _ => nl rfl) (fun _ => (ToBL.cons PV.tob_refl (ToBL.cons PV.tob_refl (ToBL.cons (PV.tob_map (fun _ => nl rfl) (fun _ => (ToBL.cons PV.tob_refl (ToBL.cons PV.tob_refl (ToBL.cons PV.tob_refl ToBL.nil))))) (ToBL.cons (PV.tob_map (fun _ => nl rfl) (fun _ => (ToBL.cons PV.tob_refl ToBL.nil))) ToBL.nil)))))) ToBL.nil)) (aI (aI rfl (ToBL.cons PV.tob_refl ToBL.nil)) tI))) (fun L => by exact lq) ?_
 intro w0 Fz0
 refine sj 0 fun hl0 => ?_
 refine sR ?_
 refine zk1 ?_
 refine zi5 ?_
 refine sS [0, 1, 4, 5] [] ?_
 refine rA ?_ (x := vM false [sl (.lo _) _])
 refine rA ?_ (x := cL [(false, [sl (.lo _) _])] [(false, [sl .v _])] c_195 (hs := by exact impl_AreQueries))
 refine zha ?_
 refine cx 13 (fun ga sga => ?_) (fun ga sga => ?_)
 exact zk2
 refine rB ga ?_ (x := sM)
 refine rB ga ?_ (x := cL [(false, [val _])] [(false, [val _])] c_191 (hs := by exact impl_isField))
 refine zi1 ?_
 refine sc (fun hba => ?_) (fun hba => ?_)
 exact zk4
 have hok : (okQueries l && inB f 0 2) = true := by simp_all
 obtain ⟨hq, hf⟩ := Bool.and_eq_true_iff.1 hok
 have hq2 := okQs hq
 refine zf2 ?_
 refine zjd ?_
 refine zk5 ?_
 rintro k hk
 refine zg2 ?_
 refine rA ?_ (x := B_leq)
 refine sc (fun hbb => ?_) (fun hbb => ?_)
 have hlt : k < 100 := by omega
 have hsl := spans_len l f k
 have hss := stabS_len l f (k : Int)
 refine zje ?_
 refine rA ?_ (x := vM false [sl (.lo _) _])
 refine zfo ?_
 refine rA ?_ (x := cL [(false, [sl (.lo _) _]), (false, [val _]), (false, [val _])] [(false, [sl .v _]), (false, [val _]), (false, [val _])] c_225 (hs := by exact (impl_stab (l := l) (f := f) (v := (k : Int)) (by omega))))
 refine rA ?_ (x := tA)
 refine sS [0, 1, 4, 5, 6, 7] [] ?_
 refine zk6 ?_
 refine rS ?_
 refine sS [0, 1, 4, 5, 6, 7, 8] [] ?_
 refine rM ?_
 refine rA ?_ (x := B_gtr)
 refine rM ?_
 refine cx 31 (fun gb sgb => ?_) (fun gb sgb => ?_)
 refine rB gb ?_ (x := vM false [sl .v _])
 refine zk7 ?_
 refine zk8 ?_
 refine rB gb ?_ (x := lE [sl .v _] ty_25)
 refine rB gb ?_ (x := vM false [sl .v _])
 refine rB gb ?_ (x := cL [(false, [sl _ _]), (false, [sl _ _])] [(false, [sl .v _]), (false, [sl .v _])] c_217 (hs := by exact impl_sameInts))
 refine rA ?_ (x := pkT gb)
 refine sc (fun hbc => ?_) (fun hbc => ?_)
 have hls : lastIs (spansTo l f k) (stabS l f (k : Int)) = true := lastIs_yes (by omega) (by simpa using hbc)
 have hl1 : (spansTo l f k).length - 1 < (spansTo l f k).length := by omega
 refine sP [0, 1, 4, 5, 6, 7, 8] [] ?_
 refine sw_thawS (s := 5) (D := 900) (G := 2900) (E := 234) (e := 3) (L := (Lw w0.heap.size)) (es := ((spansTo l f k)).map (cSpan (.own 3 1))) (by exact rfl) (map_ne hl1) (by exact rfl) (by exact rfl) rfl (by exact rfl) (fun x hx => hx) (by exact lq) (by exact ⟨⟩) (LclC.map fun x => (LclC.cons lcl_val (LclC.cons lcl_val (LclC.cons (lcl_own (LclC.map fun x => (LclC.cons lcl_val LclC.nil))) LclC.nil)))) fun uu900 cp900 jk900 hlD900 hcp900 hjk900 => ?_
 rw [List.length_map] at hlD900 hcp900 hjk900
 refine sw_boxEq (d := 900) (by exact rfl) (at_split (k := ((spansTo l f k).length - 1)) hl1) ?_
 have hA900 := at_len (f := (cSpan (.own 3 1))) (e := 3) (xs := (spansTo l f k)) (k := ((spansTo l f k).length - 1)) (fun _ => rfl) (Nat.le_of_lt hl1)
 refine zk9 ?_
 refine rA ?_ (x := vM false [val _])
 refine rM ?_
 refine rA ?_ (x := B_sub)
 refine rM ?_
 refine zka ?_
 refine zkb ?_
 refine sG [0, 1, 4, 5, 6, 7, 8] [] ?_
 exact zmr
 exact zms
 refine zh3 ?_
 refine scF ?_
 exact zms
 exact zke
theorem impl_FindSpan {p1 : Fl} {l : List Span} {v : Int}  (hs : ∀ s ∈ l, s.Set.length ≤ 1048576) : SCall Tryz.prog 199 [(false, [sl .v (l.map (cSpan p1))]), (false, [val (vI v)])] (resRV [(false, [sl (.own 3 1) ((findSpan l v).map cInt)])]) := by
 refine sF Tryz.func199 fun h0 w0 Fz0 => ?_
 refine sj 0 fun hl0 => ?_
 refine zaz ?_
 refine sw_seq ?_
 refine zmt ?_
 refine rA ?_ (x := lN sl_205)
 refine zfl ?_
 refine sP [0, 1, 4, 7, 8, 9] [] ?_
 refine sL [0, 1, 7, 8] [] (fun k : Nat => k ≤ l.length ∧ (l.take k).any (inSpan v) = false) (fun k : Nat => [(9, RV.int (k : Int))]) (fun k : Nat => []) (fun k : Nat => l.length - k) 0 (by exact ⟨by omega, by simp⟩) (by exact aI (by exact rfl) (tI)) (by exact ⟨⟩) ?_
 rintro k ⟨hk, ha⟩
 refine zfm ?_
 refine sc (fun hba => ?_) (fun hba => ?_)
 have hlt : k < l.length := by omega
 refine zed ?_
 refine sS [0, 1, 7, 8, 9] [] ?_
 refine zmu ?_
 refine rX ?_ (x := (loc_alloc (by decide) z_234 zo_234))
 refine rA ?_ (x := loc_store (ag := true) (vs := [val _, val _, sl _ _]) ty_234 (by exact ⟨⟩) (by exact rfl) (by exact nl rfl))
 refine sT [0, 1, 6, 7, 8, 9] [6] ?_
 refine rM ?_
 refine rA ?_ (x := lF fd_234_0)
 refine rA ?_ (x := lD [val _] ty_3)
 refine rA ?_ (x := lF fd_234_1)
 refine zfx ?_
 refine sc (fun hbb => ?_) (fun hbb => ?_)
 have hy : inSpan v l[k] = true := by simpa [inSpan] using hbb
 have hst := hs l[k] (List.getElem_mem hlt)
 refine sS [0, 1, 6, 7, 8, 9] [6] ?_
 refine rA ?_ (x := lF fd_234_2)
 refine zmv ?_
 refine rA ?_ (x := tA)
 refine sw_ret ?_
 exact (aI (by refine slc_eq ?_; rw [find_yes hlt ha hy]) tI)
 have hno : inSpan v l[k] = false := by simpa [inSpan] using hbb
 refine sw_skip ?_
 refine sG [0, 1, 6, 7, 8, 9] [6] ?_
 refine zfp ?_
 exact zmw
 have hend : k = l.length := by omega
 rw [hend, List.take_length] at ha
 refine sw_exit ?_
 refine sS [0, 1, 7, 8, 9] [] ?_
 refine rA ?_ (x := loc_const (.inr rfl) (by decide) (ok_nil (t := 3) (e := 1)))
 exact zkj
theorem impl_EqualSpans {p1 p3 : Fl} {x : List Span} {y : List Span}  : SCall Tryz.prog 198 [(false, [sl .v (x.map (cSpan p1))]), (false, [sl .v (y.map (cSpan p3))])] (resRV [(false, [val (.bool (deq x y))])]) := by
 refine sF Tryz.func198 fun h0 w0 Fz0 => ?_
 refine sj 0 fun hl0 => ?_
 refine sj 1 fun hl1 => ?_
 refine zcw ?_
 refine rA ?_ (x := lN sl_205)
 refine zk6 ?_
 refine rA ?_ (x := B_neq)
 refine sc (fun hba => ?_) (fun hba => ?_)
 exact zjh
 have hl : x.length = y.length := by omega
 refine zf2 ?_
 refine zmt ?_
 refine rA ?_ (x := lN sl_205)
 refine zfl ?_
 refine sP [0, 1, 4, 12, 13, 14] [] ?_
 refine sL [0, 1, 12, 13] [] (fun k : Nat => k ≤ x.length ∧ x.take k = y.take k) (fun k : Nat => [(14, RV.int (k : Int))]) (fun k : Nat => []) (fun k : Nat => x.length - k) 0 (by exact ⟨by omega, by simp⟩) (by exact aI (by exact rfl) (tI)) (by exact ⟨⟩) ?_
 rintro k ⟨hk, ha⟩
 refine zfm ?_
 refine sc (fun hbb => ?_) (fun hbb => ?_)
 have hlt : k < x.length := by omega
 have hlt2 : k < y.length := by omega
 refine zed ?_
 refine sS [0, 1, 12, 13, 14] [] ?_
 refine rM ?_
 refine zmu ?_
 refine rX ?_ (x := (loc_alloc (by decide) z_234 zo_234))
 refine rS ?_
 refine rA ?_ (x := loc_store (ag := true) (vs := [val _, val _, sl _ _]) ty_234 (by exact ⟨⟩) (by exact rfl) (by exact nl rfl))
 refine sw_seq ?_
 refine sQ [0, 1, 5, 6, 12, 13, 14] [6] ?_
 refine sw_draw hm_ ?_
 refine dA 0 ?_ (x := lF fd_234_0)
 refine dA 1 ?_ (x := lD [val _] ty_3)
 refine zck ?_
 refine dA 12 ?_ (x := loc_index (by decide) sl_205 (by exact ⟨⟩) (by exact rfl) (by exact getm2 (by omega) rfl) (by exact rfl))
 refine dA 28 ?_ (x := loc_efield (by decide) fd_234_0 (by exact nl rfl))
 refine dA 60 ?_ (x := lE [val _] ty_3)
 refine dA 127 ?_ (x := B_neq)
 refine dA 255 ?_ (x := sM)
 refine dx 27 (fun ga sga => ?_) (fun ga sga => ?_)
 refine dT 511 ga ?_
 refine dT 1023 ga ?_
 refine dT 511 ga ?_
 refine dT 511 ga ?_
 refine dT 6655 ga ?_
 refine dT 14847 ga ?_
 refine dT 31231 ga ?_
 refine dT 65535 ga ?_
 refine dA 131071 ?_ (x := pkT ga)
 refine dA 262143 ?_ (x := sM)
 refine Run.cases (s := 37) rfl (fun g4 => ?_) (fun g4 => nomatch g4)
 refine dT 524287 g4 ?_
 refine dT 1048575 g4 ?_
 refine dT 524287 g4 ?_
 refine dT 524287 g4 ?_
 refine dT 6815743 g4 ?_
 refine dT 15204351 g4 ?_
 refine dT 31981567 g4 ?_
 refine dT 67108863 g4 ?_
 refine dT 134217727 g4 ?_
 refine dA 268435455 ?_ (x := pkT g4)
 exact zmx
 refine dB 511 ga ?_ (x := lF fd_234_1)
 refine dB 1023 ga ?_ (x := lD [val _] ty_3)
 refine dB 511 ga ?_ (x := vM false [sl .v _])
 refine dB 511 ga ?_ (x := sM)
 refine dB 6655 ga ?_ (x := loc_index (by decide) sl_205 (by exact ⟨⟩) (by exact rfl) (by exact getm2 (by omega) rfl) (by exact rfl))
 refine dB 14847 ga ?_ (x := loc_efield (by decide) fd_234_1 (by exact nl rfl))
 refine dB 31231 ga ?_ (x := lE [val _] ty_3)
 refine dB 65535 ga ?_ (x := B_neq)
 refine dA 131071 ?_ (x := pkF ga)
 refine dA 262143 ?_ (x := sM)
 refine dx 37 (fun gb sgb => ?_) (fun gb sgb => ?_)
 refine dT 524287 gb ?_
 refine dT 1048575 gb ?_
 refine dT 524287 gb ?_
 refine dT 524287 gb ?_
 refine dT 6815743 gb ?_
 refine dT 15204351 gb ?_
 refine dT 31981567 gb ?_
 refine dT 67108863 gb ?_
 refine dT 134217727 gb ?_
 refine dA 268435455 ?_ (x := pkT gb)
 exact zmx
 refine dB 524287 gb ?_ (x := lF fd_234_2)
 refine dB 1048575 gb ?_ (x := lD [sl .v _] ty_25)
 refine dB 524287 gb ?_ (x := vM false [sl .v _])
 refine dB 524287 gb ?_ (x := sM)
 refine dB 6815743 gb ?_ (x := loc_index (by decide) sl_205 (by exact ⟨⟩) (by exact rfl) (by exact getm2 (by omega) rfl) (by exact rfl))
 refine dB 15204351 gb ?_ (x := loc_efield (by decide) fd_234_2 (by exact nl rfl))
 refine dB 31981567 gb ?_ (x := lE [sl .v _] ty_25)
 refine dB 67108863 gb ?_ (x := cL [(false, [sl _ _]), (false, [sl _ _])] [(false, [sl .v _]), (false, [sl .v _])] c_217 (hs := by exact impl_sameInts))
 refine dB 134217727 gb ?_ (x := nT)
 refine dA 268435455 ?_ (x := pkF gb)
 refine sc (fun hbc => ?_) (fun hbc => ?_)
 refine sS [0, 1, 5, 6, 12, 13, 14] [6] ?_
 exact zjl
 refine sw_skip ?_
 refine sG [0, 1, 5, 6, 12, 13, 14] [6] ?_
 refine zfp ?_
 exact zkk
 refine sw_exit ?_
 refine sS [0, 1, 12, 13, 14] [] ?_
 exact zjm
theorem impl_copyQuery {x : Query}  (hb : wtQuery x ≤ 68719476736) : SCall Tryz.prog 163 [(true, [val (vI x.Id), val (vI x.Tenant), sl .v (x.Conds.map cCond), sl .v (x.Out.map cInt)])] (resRV [(true, [val (vI x.Id), val (vI x.Tenant), sl (.own 193 3) (x.Conds.map cCond), sl (.own 3 1) (x.Out.map cInt)])]) := by
 refine sF Tryz.func163 fun h0 w0 Fz0 => ?_
 refine sn 0 2 fun hl0_2 => ?_
 refine sn 0 3 fun hl0_3 => ?_
 have hbu := hb
 simp only [wtQuery, wtIntS_len, wtInt, wtCondS] at hbu
 refine zbm ?_
 refine sT [1, 2] [1, 2] ?_
 refine rA ?_ (x := loc_bslice (qs := []) (by decide) sl_63 z_193 (by decide) rfl rfl rfl rfl rfl (by exact nl rfl) (by exact ⟨⟩) rfl)
 refine zd5 ?_
 refine rA ?_ (x := loc_appendb (by decide) sl_63 z_193 rfl rfl (by decide) (by first | (intro cs hcs; obtain ⟨x, _, rfl⟩ := List.mem_map.1 hcs; exact rfl) | simp) (by first | (intro cs hcs; obtain ⟨x, _, rfl⟩ := List.mem_map.1 hcs; exact (BorL.cons (bor_val _) (BorL.cons (bor_val _) (BorL.cons (bor_val _) BorL.nil)))) | simp) (by simp only [List.length_map, List.length_append, List.length_cons, List.length_nil]; omega) (by simp only [List.length_map, List.length_append, List.length_cons, List.length_nil]; omega))
 refine zbo ?_
 refine sw_seq ?_
 refine sO [(1, _), (2, _)] [(1, (65, [val _, val _, sl _ _, sl _ _])), (2, _)] ?_
 refine sw_reg ?_
 refine rA ?_ (x := lF fd_65_3)
 refine zmv ?_
 refine rA ?_ (x := lF fd_65_3)
 refine zbe ?_
 refine sO [(1, _), (2, _)] [(1, (65, [val _, val _, sl _ _, sl _ _])), (2, _)] ?_
 exact zbp
theorem impl_copyQueries {p1 p2 : Fl} {x : List Query}  (hb : wtQueryS x ≤ 68719476736) : SCall Tryz.prog 196 [(false, [sl .v (x.map (cQuery p1 p2))])] (resRV [(false, [sl (.own 65 4) (x.map (cQuery (.own 193 3) (.own 3 1)))])]) := by
 refine sF Tryz.func196 fun h0 w0 Fz0 => ?_
 refine sj 0 fun hl0 => ?_
 have hbu := hb
 simp only [wtQueryS] at hbu
 refine sR ?_
 refine zkn ?_
 refine zko ?_
 refine zgo ?_
 refine zmn ?_
 refine zfl ?_
 refine sP [0, 2, 3, 7, 8, 9] [] ?_
 refine sL [0, 2, 7, 8] [] (fun k : Nat => k ≤ x.length) (fun k : Nat => [(3, RV.slc (.own 65 4) ((x.take k).map (cQuery (.own 193 3) (.own 3 1)))), (9, RV.int (k : Int))]) (fun k : Nat => []) (fun k : Nat => x.length - k) 0 (by omega) (by exact aI (by first | exact rfl | simp) (aI (by exact rfl) (tI))) (by exact ⟨⟩) ?_
 rintro k hk
 refine zfm ?_
 refine sc (fun hba => ?_) (fun hba => ?_)
 have hlt : k < x.length := by omega
 have hwm := wt_mem (f := wtQuery) hlt
 have htl : (x.take k).length = k := by rw [List.length_take]; omega
 refine zed ?_
 refine sS [0, 2, 3, 7, 8, 9] [] ?_
 refine zjw ?_
 refine zkp ?_
 refine sH [0, 2, 3, 5, 7, 8, 9] [5] ?_
 refine rA ?_ (x := tM)
 refine rA ?_ (x := lD [val _, val _, sl .v _, sl .v _] ty_65)
 refine rA ?_ (x := cL [(true, [val _, val _, sl _ _, sl _ _])] [(true, [val _, val _, sl .v _, sl .v _])] c_163 (hs := by exact impl_copyQuery (by omega)))
 refine zkq ?_
 exact zgq
 exact zgr
theorem impl_BuildIndex {p1 p2 : Fl} {l : List Query}  : SCall Tryz.prog 123 [(false, [sl .v (l.map (cQuery p1 p2))])] (resRV [(true, [sl (.own 65 4) ((buildIdx l).Queries.map (cQuery (.own 193 3) (.own 3 1))), sl (.own 205 1) ((buildIdx l).Fields.map (cSpanS (.own 234 3) (.own 3 1)))])]) := by
 refine sF Tryz.func123 fun h0 w0 Fz0 => ?_
 refine sj 0 fun hl0 => ?_
 refine sR ?_
 refine rX ?_ (x := (loc_alloc (by decide) z_92 zo_92))
 refine sw_seq ?_
 refine sT [0, 2] [2] ?_
 refine rA ?_ (x := vM false [sl .v _])
 refine rA ?_ (x := cL [(false, [sl _ _])] [(false, [sl .v _])] c_195 (hs := by exact impl_AreQueries))
 refine rA ?_ (x := nT)
 refine sc (fun hba => ?_) (fun hba => ?_)
 have hok : okQueries l = false := by simpa using hba
 refine sS [0, 2] [2] ?_
 refine rA ?_ (x := loc_build (qs := []) (cs := [sl _ _, sl _ _]) (by decide) z_92 zo_92 FIdi_pl_92 (by exact rfl) (by exact ⟨⟩) rfl (by exact rfl))
 exact zkr
 have hok : okQueries l = true := by simpa using hba
 have hqw := okQs_wt hok
 have hql := okQs hok
 refine sw_skip ?_
 refine sS [0, 2] [2] ?_
 refine rA ?_ (x := vM false [sl .v _])
 refine rA ?_ (x := cL [(false, [sl _ _])] [(false, [sl .v _])] c_196 (hs := by exact impl_copyQueries (by omega)))
 refine rA ?_ (x := loc_build (qs := [(false, [sl _ _])]) (cs := [sl _ _, sl _ _]) (by decide) z_92 zo_92 FIdi_pl_92 (by exact rfl) (by exact (aI (by exact ⟨⟩) tI)) rfl (by exact rfl))
 refine zks ?_
 refine zie ?_
 refine zkt ?_
 refine zhx ?_
 refine zku ?_
 rintro k hk
 refine zj5 ?_
 refine zi8 ?_
 refine sc (fun hbb => ?_) (fun hbb => ?_)
 have hlt : k < 3 := by omega
 have hfl := fieldsTo_len (l := l) (k := k)
 refine zed ?_
 refine sQ [0, 2, 3, 4] [2, 3] ?_
 refine sw_draw hm_ ?_
 refine zkv ?_
 refine zck ?_
 refine dA 12 ?_ (x := cL [(false, [sl _ _]), (false, [val _])] [(false, [sl .v _]), (false, [val _])] c_197 (hs := by exact impl_StabIndex))
 exact zkw
 exact zkx
theorem impl_IsIndex {p1 p2 p4 p5 : Fl} {x : Index}  : SCall Tryz.prog 124 [(true, [sl .v (x.Queries.map (cQuery p1 p2)), sl .v (x.Fields.map (cSpanS p4 p5))])] (resRV [(false, [val (.bool (okIndex x))])]) := by
 refine sF Tryz.func124 fun h0 w0 Fz0 => ?_
 refine sn 0 0 fun hl0_0 => ?_
 refine sn 0 1 fun hl0_1 => ?_
 refine zky ?_
 refine zft ?_
 refine zkz ?_
 refine rA ?_ (x := cL [(false, [sl _ _])] [(false, [sl .v _])] c_195 (hs := by exact impl_AreQueries))
 refine zha ?_
 refine cx 9 (fun ga sga => ?_) (fun ga sga => ?_)
 exact zl0
 refine rB ga ?_ (x := lF fd_92_1)
 refine rB ga ?_ (x := lD [sl .v _] ty_90)
 refine rB ga ?_ (x := lN sl_90)
 refine rB ga ?_ (x := B_neq)
 refine rA ?_ (x := pkF ga)
 refine sc (fun hba => ?_) (fun hba => ?_)
 exact zl1
 have hpr : (okQueries x.Queries && decide (x.Fields.length = 3)) = true := by first | (simp_all; done) | (simp_all; omega)
 have hf3 : x.Fields.length = 3 := of_decide_eq_true (Bool.and_eq_true_iff.1 hpr).2
 refine zhh ?_
 refine rA ?_ (x := lF fd_92_1)
 refine rA ?_ (x := lD [sl .v _] ty_90)
 refine rA ?_ (x := lN sl_90)
 refine zfl ?_
 refine sP [1, 2, 16, 17, 18] [1] ?_
 refine sL [1, 16, 17] [1] (fun k : Nat => k ≤ x.Fields.length ∧ idxTo x k = true) (fun k : Nat => [(18, RV.int (k : Int))]) (fun k : Nat => []) (fun k : Nat => x.Fields.length - k) 0 (by exact ⟨by omega, rfl⟩) (by exact aI (by exact rfl) (tI)) (by exact ⟨⟩) ?_
 rintro k ⟨hk, ha⟩
 refine zfm ?_
 refine sc (fun hbb => ?_) (fun hbb => ?_)
 have hlt : k < x.Fields.length := by omega
 have hgk := gDt_ (d := ([] : List Span)) hlt
 refine zed ?_
 refine sT [1, 16, 17, 18] [1] ?_
 refine rM ?_
 refine rA ?_ (x := loc_index (by decide) sl_90 (by exact ⟨⟩) (by exact rfl) (by exact getm2 (by omega) rfl) (by exact rfl))
 refine rA ?_ (x := lE [sl .v _] ty_205)
 refine rS ?_
 refine rA ?_ (x := vA false [sl .v _])
 refine sS [1, 3, 4, 16, 17, 18] [1] ?_
 refine rA ?_ (x := vM false [sl .v _])
 refine zkz ?_
 refine rM ?_
 refine rA ?_ (x := cL [(false, [sl _ _]), (false, [val _])] [(false, [sl .v _]), (false, [val _])] c_197 (hs := by exact impl_StabIndex))
 refine rA ?_ (x := cL [(false, [sl _ _]), (false, [sl _ _])] [(false, [sl .v _]), (false, [sl .v _])] c_198 (hs := by exact impl_EqualSpans))
 refine rA ?_ (x := nT)
 refine sc (fun hbc => ?_) (fun hbc => ?_)
 have hd : deq (x.Fields.getD k []) (stabIdx x.Queries (k : Int)) = false := by rw [← hgk]; simpa using hbc
 refine sS [1, 3, 4, 16, 17, 18] [1] ?_
 refine zgb ?_
 exact rb ((idx_no (by omega) hd).symm)
 have hd : deq (x.Fields.getD k []) (stabIdx x.Queries (k : Int)) = true := by rw [← hgk]; simpa using hbc
 refine sw_skip ?_
 refine sG [1, 3, 4, 16, 17, 18] [1] ?_
 refine zfp ?_
 exact zl3
 have hend : k = 3 := by omega
 rw [hend] at ha
 refine sw_exit ?_
 refine sT [1, 16, 17, 18] [1] ?_
 exact zl4
theorem impl_probe {p1 p2 p4 p5 : Fl} {x : Index} {r : Row} {o : List Int}  (hxo : okIndex x = true) (hro : okRow r = true) (hoo : okOrder o = true) : SCall Tryz.prog 126 [(true, [sl .v (x.Queries.map (cQuery p1 p2)), sl .v (x.Fields.map (cSpanS p4 p5))]), (true, [val (vI r.Id), sl .v (r.Values.map cInt)]), (false, [sl .v (o.map cInt)])] (resRV [(false, [sl (.own 3 1) ((probeAll x r o).1.map cInt)]), (false, [val (vI (probeAll x r o).2)])]) := by
 refine sF Tryz.func126 fun h0 w0 Fz0 => ?_
 refine sn 0 0 fun hl0_0 => ?_
 refine sn 0 1 fun hl0_1 => ?_
 refine sn 1 1 fun hl1_1 => ?_
 refine sj 2 fun hl2 => ?_
 have hx := idx_facts hxo
 have hq := okQs hx.1
 have ho := order_facts hoo
 have hrl := rowLen hro
 refine zky ?_
 refine zl7 ?_
 refine rK ?_
 refine sT [2, 3, 4, 6, 7] [3, 4] ?_
 refine zj4 ?_
 refine sS [2, 3, 4, 6, 7, 8] [3, 4] ?_
 refine zkz ?_
 refine rA ?_ (x := lN sl_89)
 refine zfl ?_
 refine sP [2, 3, 4, 6, 7, 8, 17, 18, 19] [3, 4] ?_
 refine sL [2, 3, 4, 6, 7, 17, 18] [3, 4] (fun k : Nat => k ≤ x.Queries.length) (fun k : Nat => [(8, RV.slc (.own 3 1) ((idsQ (x.Queries.take k)).map cInt)), (19, RV.int (k : Int))]) (fun k : Nat => []) (fun k : Nat => x.Queries.length - k) 0 (by omega) (by exact aI (by exact rfl) (aI (by exact rfl) (tI))) (by exact ⟨⟩) ?_
 rintro k hk
 refine zfm ?_
 refine sc (fun hba => ?_) (fun hba => ?_)
 have hltq : k < x.Queries.length := by omega
 have htl : (idsQ (x.Queries.take k)).length = k := by unfold idsQ; rw [List.length_map, List.length_take]; omega
 refine zed ?_
 refine sT [2, 3, 4, 6, 7, 8, 17, 18, 19] [3, 4] ?_
 refine zjw ?_
 refine zkp ?_
 refine sO [(2, _), (3, _), (4, _), (6, _), (7, _), (8, _), (10, _), (17, _), (18, _), (19, _)] [(3, _), (4, _), (10, (65, [val _, val _, sl _ _, sl _ _]))] ?_
 refine sw_reg ?_
 refine rA ?_ (x := tM)
 refine zd4 ?_
 refine zj6 ?_
 refine sG [2, 3, 4, 6, 7, 8, 10, 17, 18, 19] [3, 4, 10] ?_
 refine zfp ?_
 refine nx (k + 1) (by omega) (e := (by exact aI (by exact slc_eq (by unfold idsQ; rw [map_take_succ hltq, List.map_append]; rfl)) (aI (by exact rfl) (tI))))
 have hendq : k = x.Queries.length := by omega
 refine sw_exit ?_
 refine sT [2, 3, 4, 6, 7, 8, 17, 18, 19] [3, 4] ?_
 refine zee ?_
 refine sS [2, 3, 4, 6, 7, 8, 11, 17, 18, 19] [3, 4] ?_
 refine zb0 ?_
 refine zfl ?_
 refine sP [2, 3, 4, 6, 7, 8, 11, 17, 18, 19, 29, 30, 31] [3, 4] ?_
 refine sL [2, 3, 4, 6, 7, 17, 18, 19, 29, 30] [3, 4] (fun k : Nat => k ≤ o.length) (fun k : Nat => [(8, RV.slc (.own 3 1) ((probeTo x r o k).1.map cInt)), (11, RV.int (probeTo x r o k).2), (31, RV.int (k : Int))]) (fun k : Nat => []) (fun k : Nat => o.length - k) 0 (by omega) (by exact aI (by exact slc_eq (by rw [hendq, List.take_length]; rfl)) (aI (by exact rfl) (aI (by exact rfl) (tI)))) (by exact ⟨⟩) ?_
 rintro k hk
 refine zfm ?_
 refine sc (fun hbb => ?_) (fun hbb => ?_)
 have hlt : k < o.length := by omega
 have hof := ho.2 o[k] (List.getElem_mem hlt)
 have hff : o[k].toNat < x.Fields.length := by omega
 have hrf : o[k].toNat < r.Values.length := by omega
 have hpl := probe_len hq.1 r o k
 have hxf := hx.2.2 o[k].toNat (by omega)
 have hsi := stabIdx_len x.Queries (o[k].toNat : Int)
 rw [← hxf] at hsi
 have hss : ∀ s ∈ x.Fields.getD o[k].toNat [], s.Set.length ≤ 1048576 := fun s hs => Nat.le_trans (hsi.2 s hs) (by decide)
 have hfl := find_len hsi.2 (atI r.Values o[k])
 refine zed ?_
 refine sT [2, 3, 4, 6, 7, 8, 11, 17, 18, 19, 29, 30, 31] [3, 4] ?_
 refine zb4 ?_
 refine zjk ?_
 refine sS [2, 3, 4, 6, 7, 8, 11, 13, 17, 18, 19, 29, 30, 31] [3, 4] ?_
 refine zb0 ?_
 refine rA ?_ (x := B_eql)
 refine sc (fun hbc => ?_) (fun hbc => ?_)
 have hpe := probe_end (x := x) (r := r) (o := o) (k := k) (.inr (by rw [← List.length_eq_zero_iff]; first | omega | (simp_all; done)))
 refine sw_exit ?_
 refine sS [2, 3, 4, 6, 7, 8, 11, 13, 17, 18, 19, 29, 30, 31] [3, 4] ?_
 exact zmy
 have hne : (probeTo x r o k).1 ≠ [] := by intro e; simp_all
 have hpe := probeTo_succ (x := x) (r := r) hlt hne
 refine zf2 ?_
 refine sP [2, 3, 4, 6, 7, 8, 11, 13, 17, 18, 19, 29, 30, 31] [3, 4] ?_
 refine sw_draw hm_ ?_
 refine zl2 ?_
 refine dA 0 ?_ (x := sM)
 refine dA 7 ?_ (x := loc_index (k := o[k].toNat) (by decide) sl_90 (by exact ⟨⟩) (by omega) (by exact getm2 hff (by rw [gDt_ (d := ([] : List Span)) hff])) (by exact rfl))
 refine dA 15 ?_ (x := lE [sl .v _] ty_205)
 refine dA 0 ?_ (x := lF fd_66_1)
 refine dA 32 ?_ (x := lD [sl .v _] ty_25)
 refine dA 0 ?_ (x := sM)
 refine dA 224 ?_ (x := loc_index (k := o[k].toNat) (by decide) sl_25 (by exact ⟨⟩) (by omega) (by exact getm2 hrf (by rw [gDt_ (d := (0 : Int)) hrf])) (by exact rfl))
 refine dA 480 ?_ (x := lE [val _] ty_3)
 refine dA 1023 ?_ (x := cL [(false, [sl _ _]), (false, [val _])] [(false, [sl .v _]), (false, [val _])] c_199 (hs := by exact (impl_FindSpan (l := x.Fields.getD o[k].toNat []) (v := atI r.Values o[k]) hss)))
 refine dA 2047 ?_ (x := tA)
 refine sS [2, 3, 4, 6, 7, 8, 11, 13, 14, 17, 18, 19, 29, 30, 31] [3, 4] ?_
 refine zmz ?_
 refine rA ?_ (x := lN sl_25)
 refine zb0 ?_
 refine rA ?_ (x := loc_min (by decide) (by exact ⟨⟩) (by exact ⟨⟩))
 refine rA ?_ (x := B_add)
 refine rA ?_ (x := B_add)
 refine rS ?_
 refine sG [2, 3, 4, 6, 7, 8, 11, 13, 14, 17, 18, 19, 29, 30, 31] [3, 4] ?_
 refine rA ?_ (x := vM false [sl .v _])
 refine rA ?_ (x := vM false [sl .v _])
 refine rA ?_ (x := cL [(false, [sl _ _]), (false, [sl _ _])] [(false, [sl .v _]), (false, [sl .v _])] c_200 (hs := by exact impl_MeetSets))
 refine rA ?_ (x := tA)
 refine sG [2, 3, 4, 6, 7, 8, 11, 13, 14, 17, 18, 19, 29, 30, 31] [3, 4] ?_
 refine zfp ?_
 refine nx (k + 1) (by omega) (e := (by exact aI (by exact slc_eq (by rw [hpe])) (aI (by exact int_eq (by rw [hpe]; dsimp only; omega)) (aI (by exact rfl) (tI)))))
 have hpe := probe_end (x := x) (r := r) (.inl (show k = o.length by omega))
 refine sw_exit ?_
 refine sT [2, 3, 4, 6, 7, 8, 11, 17, 18, 19, 29, 30, 31] [3, 4] ?_
 exact zmy
end Go.Proofs.YteflgldonmgejaaGreat
