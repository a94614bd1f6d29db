/- Proved: for all arguments, with the tables of numbers as the library lays them, the law FnReports answers true and leaves its arguments as they read: the tied card. No further condition. -/
import Derived.Test.YtmekkgdboplbjaaGreatDoorCW1
import Derived.Test.YtmekkgdboplbjaaGreatDoorCX1
import Derived.Test.YtmekkgdboplbjaaGreatDoorCards
import Derived.Test.YtmekkgdboplbjaaGreatDoorTie
import Derived.Deep.DeepHandedRow
import Derived.Stop.LaidErr
set_option linter.all false
namespace Go.Proofs.YtmekkgdboplbjaaGreatDoor
open Go Go.RowKit Go.ChangeShapes Go.WideShapes Go.ChangeAt M
set_option maxRecDepth 10000
namespace fnReports
theorem own : ownKnob Tryz.prog.godebug = none := by kernel_rfl
theorem gT : (Tryz.prog.globals[3]?).map (·.type) = some 289 := by kernel_rfl
theorem cT : Tryz.prog.cellsOf 289 = 20 := by kernel_rfl
theorem cE : Tryz.prog.cellsOf 267 = 1 := by kernel_rfl
theorem Nv {W : World} (h : laidMet Tryz.prog Rows.fnReportsRow.laid W) : Lib.TabIs Tryz.prog W "internal/strconv.uint64pow10" .u64 Lib.pow10Tab :=
 Lib.tabIs_of_head (rest := []) BK gT Tryz.underlying289 Tryz.underlying267 cE cT (laidMet.tail (laidMet.tail h))
theorem glob {W : World} (h : laidMet Tryz.prog Rows.fnReportsRow.laid W) : gl.rel (pH W) W := ⟨fun o => World.block_lt_of_cell? _ _ ((Nv h).cell BK 0 (by decide)), Nv h⟩
theorem YN (H : Type) (enc : TypeId × Value → H) (W : World) (base : Nat) (args : Array Value) (ds gs : List (DataW H)) (before : List MemPlace)
  (hval0 : ∀ (j : Nat) t v, Tryz.f4.params[j]? = some t → args[j]? = some v → Value.okWide Tryz.prog W .any base t v)
  (hW : DataW.Whole enc Tryz.prog Tryz.f4.params.toList Rows.fnReportsSpec.vars false W args.toList ds gs before) (hL : laidMet Tryz.prog Rows.fnReportsRow.laid W) :
  Calls Tryz.prog 4 args W fun e W' => ∃ v, e = .returned v ∧ Rows.fnReportsSpec.post enc Tryz.prog Tryz.f4 false true false false W args v W' := by
 have hval := hval0
 have hW' := hW
 obtain ⟨p, q, hA0, hV, rfl, hfz, hnd⟩ := hW
 have hA : DataW.TrodAll enc Tryz.prog W 0 (fun _ => true) true Tryz.f4.params.toList args.toList ds p := hA0
 rw [Tryz.params4] at hA hval
 obtain ⟨v0, vs0, d0, ds0, p0, q0, hargs, rfl, rfl, h0, r0⟩ := trodAll_cons hA
 obtain ⟨rfl, rfl, rfl⟩ := trodAll_nil r0
 obtain rfl : args = #[v0] := by cases args; simp_all
 obtain ⟨rfl, rfl⟩ := trodVars_none hV
 obtain ⟨a0, s0, g0⟩ := Pd BC YM (hval 0 37 v0 rfl rfl) h0
 clear hA0 hval0
 have hc := Pe (W := W) (vs := [v0]) (YK (code := a0)) (glob hL) ⟨_, _, rfl, s0, rfl⟩
 exact Pb (by kernel_rfl) (by kernel_rfl) hW' rfl (by kernel_rfl) Tryz.underlying4 rfl hc
noncomputable def CO (os : Os) : World :=
 let w0 := World.holding Tryz.prog os ⟨#[], #[], []⟩
 { w0 with heap := (((w0.heap.modify 6 fun | .cells _ t fr => .cells #[.int .u8 0, .int .u8 1, .int .u8 28, .int .u8 2, .int .u8 29, .int .u8 14, .int .u8 24, .int .u8 3, .int .u8 30, .int .u8 22, .int .u8 20, .int .u8 15, .int .u8 25, .int .u8 17, .int .u8 4, .int .u8 8, .int .u8 31, .int .u8 27, .int .u8 13, .int .u8 23, .int .u8 21, .int .u8 19, .int .u8 16, .int .u8 7, .int .u8 26, .int .u8 12, .int .u8 18, .int .u8 6, .int .u8 11, .int .u8 5, .int .u8 10, .int .u8 9] t fr | o => o).modify 7 fun | .cells _ t fr => .cells #[.int .u8 0, .int .u8 1, .int .u8 56, .int .u8 2, .int .u8 57, .int .u8 49, .int .u8 28, .int .u8 3, .int .u8 61, .int .u8 58, .int .u8 42, .int .u8 50, .int .u8 38, .int .u8 29, .int .u8 17, .int .u8 4, .int .u8 62, .int .u8 47, .int .u8 59, .int .u8 36, .int .u8 45, .int .u8 43, .int .u8 51, .int .u8 22, .int .u8 53, .int .u8 39, .int .u8 33, .int .u8 30, .int .u8 24, .int .u8 18, .int .u8 12, .int .u8 5, .int .u8 63, .int .u8 55, .int .u8 48, .int .u8 27, .int .u8 60, .int .u8 41, .int .u8 37, .int .u8 16, .int .u8 46, .int .u8 35, .int .u8 44, .int .u8 21, .int .u8 52, .int .u8 32, .int .u8 23, .int .u8 11, .int .u8 54, .int .u8 26, .int .u8 40, .int .u8 15, .int .u8 34, .int .u8 20, .int .u8 31, .int .u8 10, .int .u8 25, .int .u8 14, .int .u8 19, .int .u8 9, .int .u8 13, .int .u8 8, .int .u8 7, .int .u8 6] t fr | o => o).modify 3 fun | .cells _ t fr => .cells #[.int .u64 1, .int .u64 10, .int .u64 100, .int .u64 1000, .int .u64 10000, .int .u64 100000, .int .u64 1000000, .int .u64 10000000, .int .u64 100000000, .int .u64 1000000000, .int .u64 10000000000, .int .u64 100000000000, .int .u64 1000000000000, .int .u64 10000000000000, .int .u64 100000000000000, .int .u64 1000000000000000, .int .u64 10000000000000000, .int .u64 100000000000000000, .int .u64 1000000000000000000, .int .u64 10000000000000000000] t fr | o => o) }
theorem YO (os : Os) (args : Array Value) : laidMet Tryz.prog Rows.fnReportsRow.laid ((CO os).forCall (fun _ _ => 0) ⟨#[], args, []⟩).memory := laidMet_of_run' 8 (by kernel_rfl) (by kernel_rfl)
theorem YP (os : Os) {H : Type} (enc : TypeId × Value → H) : ∃ places, DataW.whole enc Tryz.prog ((CO os).forCall (fun _ _ => 0) ⟨#[], #[.slice none 0 0], []⟩).memory Tryz.f4.params.toList Rows.fnReportsSpec.vars false [.slice none 0 0] 8 = some ([.nil], [], places) := ⟨[], by kernel_rfl⟩
set_option maxRecDepth 100000 in
theorem lifted (os : Os) (started : os.Started) (H : Type) (enc : TypeId × Value → H) (F : Stop.Interp) :
  ReturnsInHanded {} Tryz.checked os 4 .any ((OpenSpec.ofChange Rows.fnReportsSpec).preRow enc Tryz.prog Tryz.f4 Rows.fnReportsRow.domain false Rows.fnReportsRow.laid) (((OpenSpec.ofChange Rows.fnReportsSpec).at F).post enc Tryz.prog Tryz.f4 false true false false) := by
 obtain ⟨places, hx⟩ := YP os enc
 refine returnsInHanded_of_row (C := Tryz.checked) (s := OpenSpec.ofChange Rows.fnReportsSpec) own started (by kernel_rfl) Tryz.func4
  (witness_row_at (enc := enc) (C := Tryz.checked) false (CO os) #[.slice none 0 0] rfl (by kernel_rfl) (by kernel_rfl) (by kernel_rfl)
   (OpenSpec.preRow_of_cond 8 hx (by kernel_rfl) (fun k hk => by cases hk) (by kernel_rfl) (YO os _))) ?_
 intro W base args ds gs before hval hW _ _ _ hL _ _
 exact YN H enc W base args ds gs before hval hW hL
theorem dR {a b : Bool} (x : a = true) (y : b = true) : (a && b) = true := by rw [x, y]; rfl
theorem YQ : (Rows.fnReportsRow.wf (OpenSpec.ofChange Rows.fnReportsSpec)) = true := by kernel_rfl
theorem YR : (laidOutB Tryz.prog) = true := by kernel_rfl
theorem YS : (mapsRowed Tryz.prog) = true := by kernel_rfl
theorem YT : (Tryz.f4.params.all (Tryz.prog.readableRec ·)) = true := by kernel_rfl
theorem YU : (namedTie Tryz.prog Rows.fnReportsRow.named Rows.fnReportsSpec.vars) = true := by kernel_rfl
theorem YV : ((Rows.fnReportsRow.stops == [])) = true := by kernel_rfl
theorem YW : ((Tryz.prog.stops == [])) = true := by kernel_rfl
theorem YX : ((Rows.fnReportsRow.knobs == [])) = true := by kernel_rfl
theorem YY : ((Tryz.prog.stopKnobs == [])) = true := by kernel_rfl
theorem YZ : ((Rows.fnReportsRow.inPlace == Tryz.prog.inPlace 4)) = true := by kernel_rfl
theorem Za : ((Rows.fnReportsRow.unfollowed == Tryz.prog.unfollowed 4)) = true := by kernel_rfl
theorem Zb : ((Rows.fnReportsRow.recurses == Tryz.prog.recurses 4)) = true := by kernel_rfl
theorem Zc : ((Rows.fnReportsRow.named == Tryz.prog.varsNamed 4)) = true := by kernel_rfl
theorem Zd : ((Rows.fnReportsRow.maps == (Tryz.f4.params.toList ++ Rows.fnReportsSpec.plain.varTypes Tryz.prog).any (Tryz.prog.mapsRec ·))) = true := by kernel_rfl
theorem Ze : ((Rows.fnReportsRow.ifaces == (Tryz.f4.params.toList ++ Rows.fnReportsSpec.plain.varTypes Tryz.prog).any (Tryz.prog.ifacesRec ·))) = true := by kernel_rfl
theorem Zf : ((Rows.fnReportsRow.mapsOut == Tryz.prog.mapsAmong Tryz.f4.resultTypes.toList)) = true := by kernel_rfl
theorem Zg : ((Rows.fnReportsRow.loops == (Tryz.f4.params.toList ++ Rows.fnReportsSpec.plain.varTypes Tryz.prog).any (Tryz.prog.loopsFrom ·))) = true := by kernel_rfl
theorem Zh : ((Rows.fnReportsRow.wideKeys == (Tryz.f4.params.toList ++ Rows.fnReportsSpec.plain.varTypes Tryz.prog ++ Tryz.f4.resultTypes.toList).any (Tryz.prog.wideKeysFrom ·))) = true := by kernel_rfl
theorem Zi : (Rows.fnReportsSpec.vars.all (Tryz.prog.varReadable ·)) = true := by kernel_rfl
theorem Zj : (Tryz.f4.resultTypes.all (fun t => Tryz.prog.readableRec t && decide (t < Tryz.prog.types.size))) = true := by kernel_rfl
theorem Zk : ((Rows.fnReportsRow.ifacesOut == Tryz.f4.resultTypes.toList.any (Tryz.prog.ifacesRec ·))) = true := by kernel_rfl
theorem Zl : ((Rows.fnReportsRow.loopsOut == Tryz.f4.resultTypes.toList.any (Tryz.prog.loopsFrom ·))) = true := by kernel_rfl
theorem Zm : ((Rows.fnReportsRow.plainKeys == Tryz.prog.plainKeys)) = true := by kernel_rfl
theorem Zn : (Rows.fnReportsRow.shortTexts.isNone) = true := by kernel_rfl
theorem Zo : (Tryz.prog.stopsHeard) = true := by kernel_rfl
theorem Zp : (Tryz.prog.mayEnter) = true := by kernel_rfl
theorem Zq : ((Rows.fnReportsRow.lifted == Tryz.prog.liftsFinal)) = true := by kernel_rfl
theorem Zr : ((Tryz.prog.make == some Rows.fnReportsRow.make)) = true := by kernel_rfl
theorem Zs : ((Rows.fnReportsRow.kinds == (if Rows.fnReportsRow.domain.isEmpty then [] else Tryz.f4.params.toList.map fun t => match Tryz.prog.underlying t with | some (.int k) => some k | _ => none))) = true := by kernel_rfl
theorem Zt : ((Rows.fnReportsRow.pinned == Rows.fnReportsRow.pinnedBy)) = true := by kernel_rfl
theorem Zu : ((Rows.fnReportsRow.veiled == (Tryz.f4.params.toList ++ Rows.fnReportsSpec.plain.varTypes Tryz.prog ++ Tryz.f4.resultTypes.toList).any (Tryz.prog.veiledRec ·))) = true := by kernel_rfl
theorem Zv : (Rows.fnReportsRow.veiledFits Tryz.prog Tryz.f4.params.toList (Tryz.f4.params.toList ++ Rows.fnReportsSpec.plain.varTypes Tryz.prog ++ Tryz.f4.resultTypes.toList)) = true := by kernel_rfl
theorem Zw : joinedFacts Tryz.prog 4 Tryz.f4 Rows.fnReportsSpec Rows.fnReportsRow = true := (dR (dR (dR (dR (dR (dR (dR (dR (dR (dR (dR (dR (dR (dR (dR (dR (dR (dR (dR (dR (dR (dR (dR (dR (dR (dR (dR (dR (dR (dR (dR YQ YR) YS) YT) YU) YV) YW) YX) YY) YZ) Za) Zb) Zc) Zd) Ze) Zf) Zg) Zh) Zi) Zj) Zk) Zl) Zm) Zn) Zo) Zp) Zq) Zr) Zs) Zt) Zu) Zv)
theorem Zx : Rows.FnReportsSaid :=
 OpenClaim.holds_of_cond 4 Tryz.f4 rfl rfl rfl rfl rfl rfl rfl ⟨rfl, rfl, rfl, rfl, rfl⟩ rfl rfl rfl rfl rfl (by kernel_rfl) Tryz.func4 Zw
  (of_decide_eq_true (by kernel_rfl)) (by unfold Func.isWrapper; first | (rw [if_pos (by decide +kernel)]; kernel_rfl) | (rw [if_neg (by decide +kernel)]; exact ⟨rfl, rfl⟩))
  (fun os started H enc _ F => by rw [OpenClaim.pre_eq_preRow]; exact lifted os started H enc F)
theorem plain (f : FuncId) (fn : Func) (hf : Tryz.pinned.checked.prog.funcNamed "loop.example/g01986/laws.FnReports" = some f) (hfn : Tryz.pinned.checked.prog.funcs[f]? = some fn) :
  true = Tryz.pinned.checked.prog.looks [] ∧ ∀ (j : Nat) t, fn.params[j]? = some t → Tryz.pinned.checked.prog.wantsStandIn t = false := by
 obtain rfl : f = 4 := Option.some.inj ((show Tryz.prog.funcNamed "loop.example/g01986/laws.FnReports" = some 4 by kernel_rfl).symm.trans hf) |>.symm
 obtain rfl : fn = Tryz.f4 := (Option.some.inj (Tryz.func4.symm.trans hfn)).symm
 refine ⟨by kernel_rfl, fun j t ht => ?_⟩
 rw [Tryz.params4] at ht
 have hm : t ∈ [37] := by simpa using Array.mem_of_getElem? ht
 have hall : ([37].all fun u => !Tryz.prog.wantsStandIn u) = true := by kernel_rfl
 exact (show Tryz.prog.wantsStandIn t = false by simpa using List.all_eq_true.1 hall t hm)
theorem proved : Rows.FnReportsCardSaid :=
 Claim7.holds_tied_plain_at .later [] _ _ _ _ Zx (fun _ h => by cases h) (by kernel_rfl) (fun _ h => by cases h) fnReports_row_tie rfl ⟨rfl, rfl⟩ (by kernel_rfl) rfl plain (by kernel_rfl)
#print axioms proved
end fnReports
end Go.Proofs.YtmekkgdboplbjaaGreatDoor
