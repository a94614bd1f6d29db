/- Proved: for all arguments, with the tables of numbers as the library lays them, the law FnExactRunConsole answers true and leaves its arguments as they read: the tied card. No further condition. -/
import Derived.Test.YtmekkgdboplbjaaGreatDoorRC2
import Derived.Test.YtmekkgdboplbjaaGreatDoorRD2
import Derived.Test.YtmekkgdboplbjaaGreatDoorCards
import Derived.Test.YtmekkgdboplbjaaGreatDoorTie
import Derived.Deep.DeepHandedRow
import Derived.Stop.LaidErr
import Derived.Shelf.Vars
set_option linter.all false
namespace Go.Proofs.YtmekkgdboplbjaaGreatDoor
open Go Go.RowKit Go.ChangeShapes Go.WideShapes Go.ChangeAt M
set_option maxRecDepth 10000
namespace fnExactRunConsole
theorem own : ownKnob Tryz.prog.godebug = none := by kernel_rfl
theorem gT : (Tryz.prog.globals[3]?).map (·.type) = some 289 := by kernel_rfl
theorem cT : Tryz.prog.cellsOf 289 = 20 := by kernel_rfl
theorem cE : Tryz.prog.cellsOf 267 = 1 := by kernel_rfl
theorem apj {W : World} (h : laidMet Tryz.prog Rows.fnExactRunConsoleRow.laid W) : Lib.TabIs Tryz.prog W "internal/strconv.uint64pow10" .u64 Lib.pow10Tab :=
 Lib.tabIs_of_head (rest := _) TE gT Tryz.underlying289 Tryz.underlying267 cE cT (laidMet.tail (laidMet.tail h))
theorem apk : "*" ++ "errors.errorString" = "*errors.errorString" := by decide
theorem apl (u : TypeId) (h : Tryz.prog.typeName? 3 u = some "*errors.errorString") : u = 284 := typeName_ptr_named (nm := "errors.errorString") (by rw [apk]; kernel_rfl) (by kernel_rfl) (by decide) u (by rw [apk]; exact h)
theorem aCa {W : World} (h : laidMet Tryz.prog Rows.fnExactRunConsoleRow.laid W) : ∃ a, W.cell? ⟨1, 0, none⟩ = some (.iface 284 (.pointer (some a))) := by
 obtain ⟨a, s, v, _⟩ := laid_sentinel (laidMet.tail (laidMet.tail (laidMet.tail (laidMet.tail (laidMet.tail h))))) (show Tryz.prog.globalNamed "strconv.ErrSyntax" = some 1 by kernel_rfl) (by kernel_rfl) Tryz.underlying160 apl Tryz.underlying284 Tryz.underlying286 rfl rfl Tryz.underlying9 (by kernel_rfl) (by kernel_rfl)
 exact ⟨a, by simpa using World.var?_cell (show Tryz.prog.globalNamed "strconv.ErrSyntax" = some 1 by kernel_rfl) v 0⟩
theorem aCb {W : World} (h : laidMet Tryz.prog Rows.fnExactRunConsoleRow.laid W) : ∃ a, W.cell? ⟨2, 0, none⟩ = some (.iface 284 (.pointer (some a))) := by
 obtain ⟨a, s, v, _⟩ := laid_sentinel (laidMet.tail (laidMet.tail (laidMet.tail (laidMet.tail h)))) (show Tryz.prog.globalNamed "strconv.ErrRange" = some 2 by kernel_rfl) (by kernel_rfl) Tryz.underlying160 apl Tryz.underlying284 Tryz.underlying286 rfl rfl Tryz.underlying9 (by kernel_rfl) (by kernel_rfl)
 exact ⟨a, by simpa using World.var?_cell (show Tryz.prog.globalNamed "strconv.ErrRange" = some 2 by kernel_rfl) v 0⟩
theorem glob {W : World} (h : laidMet Tryz.prog Rows.fnExactRunConsoleRow.laid W) (hsh : W.ShapedOpen Tryz.prog) : gl.rel (zu W) W := by
 obtain ⟨m, hm⟩ := cell_of_shapedOpen_int (P := Tryz.prog) (g := 0) (t := 3) (zero := #[.int .i64 0]) hsh (of_decide_eq_true (by kernel_rfl)) (by kernel_rfl) rfl (by kernel_rfl) (by kernel_rfl) Tryz.underlying3
 obtain ⟨a0, c0⟩ := aCa h
 obtain ⟨a1, c1⟩ := aCb h
 exact ⟨⟨fun o => World.block_lt_of_cell? _ _ ((apj h).cell TE 0 (by decide)), apj h⟩, ⟨World.block_lt_of_cell? _ _ hm, _, hm, _, rfl⟩, ⟨World.block_lt_of_cell? _ _ c0, _, c0, Or.inr ⟨_, _, rfl⟩⟩, ⟨World.block_lt_of_cell? _ _ c1, _, c1, Or.inr ⟨_, _, rfl⟩⟩⟩
theorem aCc (H : Type) (enc : TypeId × Value → H) (W : World) (base : Nat) (args : Array Value) (ds gs : List (DataW H)) (before : List MemPlace)
  (hval0 : ∀ (j : Nat) t v, Tryz.f7.params[j]? = some t → args[j]? = some v → Value.okWide Tryz.prog W .any base t v)
  (hW : DataW.Whole enc Tryz.prog Tryz.f7.params.toList Rows.fnExactRunConsoleSpec.vars false W args.toList ds gs before) (hL : laidMet Tryz.prog Rows.fnExactRunConsoleRow.laid W) (hsh : W.ShapedOpen Tryz.prog) :
  Calls Tryz.prog 7 args W fun e W' => ∃ v, e = .returned v ∧ Rows.fnExactRunConsoleSpec.post enc Tryz.prog Tryz.f7 false true false false W args v W' := by
 have hval := hval0
 have hW' := hW
 obtain ⟨p, q, hA0, hV, rfl, hfz, hnd⟩ := hW
 have hA : DataW.TrodAll enc Tryz.prog W 0 (fun _ => true) true Tryz.f7.params.toList args.toList ds p := hA0
 rw [Tryz.params7] at hA hval
 obtain ⟨v0, vs0, d0, ds0, p0, q0, hargs, rfl, rfl, h0, r0⟩ := trodAll_cons hA
 obtain ⟨rfl, rfl, rfl⟩ := trodAll_nil r0
 obtain rfl : args = #[v0] := by cases args; simp_all
 obtain ⟨rfl, rfl⟩ := trodVars_none hV
 obtain ⟨a0, s0, g0⟩ := aqR jA aB9 (hval 0 9 v0 rfl rfl) h0
 clear hA0 hval0
 have hc := aqT (W := W) (vs := [v0]) (aB8 (s := a0)) (glob hL hsh) ⟨_, _, rfl, s0, rfl⟩
 exact aqP (by kernel_rfl) (by kernel_rfl) hW' rfl (by kernel_rfl) Tryz.underlying4 rfl hc
noncomputable def low : Nat := (World.holding Tryz.prog default ⟨#[], #[], []⟩).heap.size
noncomputable def VS (os : Os) : World :=
 let w0 := World.holding Tryz.prog os ⟨#[.cells #[.string ⟨#[118, 97, 108, 117, 101, 32, 111, 117, 116, 32, 111, 102, 32, 114, 97, 110, 103, 101]⟩] 286, .cells #[.string ⟨#[105, 110, 118, 97, 108, 105, 100, 32, 115, 121, 110, 116, 97, 120]⟩] 286], #[], []⟩
 { w0 with heap := (((((((w0.heap.modify 6 fun | .cells _ t fr => .cells #[.int .u8 0, .int .u8 1, .int .u8 28, .int .u8 2, .int .u8 29, .int .u8 14, .int .u8 24, .int .u8 3, .int .u8 30, .int .u8 22, .int .u8 20, .int .u8 15, .int .u8 25, .int .u8 17, .int .u8 4, .int .u8 8, .int .u8 31, .int .u8 27, .int .u8 13, .int .u8 23, .int .u8 21, .int .u8 19, .int .u8 16, .int .u8 7, .int .u8 26, .int .u8 12, .int .u8 18, .int .u8 6, .int .u8 11, .int .u8 5, .int .u8 10, .int .u8 9] t fr | o => o).modify 7 fun | .cells _ t fr => .cells #[.int .u8 0, .int .u8 1, .int .u8 56, .int .u8 2, .int .u8 57, .int .u8 49, .int .u8 28, .int .u8 3, .int .u8 61, .int .u8 58, .int .u8 42, .int .u8 50, .int .u8 38, .int .u8 29, .int .u8 17, .int .u8 4, .int .u8 62, .int .u8 47, .int .u8 59, .int .u8 36, .int .u8 45, .int .u8 43, .int .u8 51, .int .u8 22, .int .u8 53, .int .u8 39, .int .u8 33, .int .u8 30, .int .u8 24, .int .u8 18, .int .u8 12, .int .u8 5, .int .u8 63, .int .u8 55, .int .u8 48, .int .u8 27, .int .u8 60, .int .u8 41, .int .u8 37, .int .u8 16, .int .u8 46, .int .u8 35, .int .u8 44, .int .u8 21, .int .u8 52, .int .u8 32, .int .u8 23, .int .u8 11, .int .u8 54, .int .u8 26, .int .u8 40, .int .u8 15, .int .u8 34, .int .u8 20, .int .u8 31, .int .u8 10, .int .u8 25, .int .u8 14, .int .u8 19, .int .u8 9, .int .u8 13, .int .u8 8, .int .u8 7, .int .u8 6] t fr | o => o).modify 3 fun | .cells _ t fr => .cells #[.int .u64 1, .int .u64 10, .int .u64 100, .int .u64 1000, .int .u64 10000, .int .u64 100000, .int .u64 1000000, .int .u64 10000000, .int .u64 100000000, .int .u64 1000000000, .int .u64 10000000000, .int .u64 100000000000, .int .u64 1000000000000, .int .u64 10000000000000, .int .u64 100000000000000, .int .u64 1000000000000000, .int .u64 10000000000000000, .int .u64 100000000000000000, .int .u64 1000000000000000000, .int .u64 10000000000000000000] t fr | o => o).modify 5 fun | .cells _ t fr => .cells #[.int .u8 128, .int .u8 191, .int .u8 160, .int .u8 191, .int .u8 128, .int .u8 159, .int .u8 144, .int .u8 191, .int .u8 128, .int .u8 143, .int .u8 0, .int .u8 0, .int .u8 0, .int .u8 0, .int .u8 0, .int .u8 0, .int .u8 0, .int .u8 0, .int .u8 0, .int .u8 0, .int .u8 0, .int .u8 0, .int .u8 0, .int .u8 0, .int .u8 0, .int .u8 0, .int .u8 0, .int .u8 0, .int .u8 0, .int .u8 0, .int .u8 0, .int .u8 0] t fr | o => o).modify 2 fun | .cells _ t fr => .cells #[.iface 284 (.pointer (some ⟨low + 0, 0, none⟩))] t fr | o => o).modify 1 fun | .cells _ t fr => .cells #[.iface 284 (.pointer (some ⟨low + 1, 0, none⟩))] t fr | o => o).modify 4 fun | .cells _ t fr => .cells #[.int .u8 240, .int .u8 240, .int .u8 240, .int .u8 240, .int .u8 240, .int .u8 240, .int .u8 240, .int .u8 240, .int .u8 240, .int .u8 240, .int .u8 240, .int .u8 240, .int .u8 240, .int .u8 240, .int .u8 240, .int .u8 240, .int .u8 240, .int .u8 240, .int .u8 240, .int .u8 240, .int .u8 240, .int .u8 240, .int .u8 240, .int .u8 240, .int .u8 240, .int .u8 240, .int .u8 240, .int .u8 240, .int .u8 240, .int .u8 240, .int .u8 240, .int .u8 240, .int .u8 240, .int .u8 240, .int .u8 240, .int .u8 240, .int .u8 240, .int .u8 240, .int .u8 240, .int .u8 240, .int .u8 240, .int .u8 240, .int .u8 240, .int .u8 240, .int .u8 240, .int .u8 240, .int .u8 240, .int .u8 240, .int .u8 240, .int .u8 240, .int .u8 240, .int .u8 240, .int .u8 240, .int .u8 240, .int .u8 240, .int .u8 240, .int .u8 240, .int .u8 240, .int .u8 240, .int .u8 240, .int .u8 240, .int .u8 240, .int .u8 240, .int .u8 240, .int .u8 240, .int .u8 240, .int .u8 240, .int .u8 240, .int .u8 240, .int .u8 240, .int .u8 240, .int .u8 240, .int .u8 240, .int .u8 240, .int .u8 240, .int .u8 240, .int .u8 240, .int .u8 240, .int .u8 240, .int .u8 240, .int .u8 240, .int .u8 240, .int .u8 240, .int .u8 240, .int .u8 240, .int .u8 240, .int .u8 240, .int .u8 240, .int .u8 240, .int .u8 240, .int .u8 240, .int .u8 240, .int .u8 240, .int .u8 240, .int .u8 240, .int .u8 240, .int .u8 240, .int .u8 240, .int .u8 240, .int .u8 240, .int .u8 240, .int .u8 240, .int .u8 240, .int .u8 240, .int .u8 240, .int .u8 240, .int .u8 240, .int .u8 240, .int .u8 240, .int .u8 240, .int .u8 240, .int .u8 240, .int .u8 240, .int .u8 240, .int .u8 240, .int .u8 240, .int .u8 240, .int .u8 240, .int .u8 240, .int .u8 240, .int .u8 240, .int .u8 240, .int .u8 240, .int .u8 240, .int .u8 240, .int .u8 240, .int .u8 240, .int .u8 240, .int .u8 241, .int .u8 241, .int .u8 241, .int .u8 241, .int .u8 241, .int .u8 241, .int .u8 241, .int .u8 241, .int .u8 241, .int .u8 241, .int .u8 241, .int .u8 241, .int .u8 241, .int .u8 241, .int .u8 241, .int .u8 241, .int .u8 241, .int .u8 241, .int .u8 241, .int .u8 241, .int .u8 241, .int .u8 241, .int .u8 241, .int .u8 241, .int .u8 241, .int .u8 241, .int .u8 241, .int .u8 241, .int .u8 241, .int .u8 241, .int .u8 241, .int .u8 241, .int .u8 241, .int .u8 241, .int .u8 241, .int .u8 241, .int .u8 241, .int .u8 241, .int .u8 241, .int .u8 241, .int .u8 241, .int .u8 241, .int .u8 241, .int .u8 241, .int .u8 241, .int .u8 241, .int .u8 241, .int .u8 241, .int .u8 241, .int .u8 241, .int .u8 241, .int .u8 241, .int .u8 241, .int .u8 241, .int .u8 241, .int .u8 241, .int .u8 241, .int .u8 241, .int .u8 241, .int .u8 241, .int .u8 241, .int .u8 241, .int .u8 241, .int .u8 241, .int .u8 241, .int .u8 241, .int .u8 2, .int .u8 2, .int .u8 2, .int .u8 2, .int .u8 2, .int .u8 2, .int .u8 2, .int .u8 2, .int .u8 2, .int .u8 2, .int .u8 2, .int .u8 2, .int .u8 2, .int .u8 2, .int .u8 2, .int .u8 2, .int .u8 2, .int .u8 2, .int .u8 2, .int .u8 2, .int .u8 2, .int .u8 2, .int .u8 2, .int .u8 2, .int .u8 2, .int .u8 2, .int .u8 2, .int .u8 2, .int .u8 2, .int .u8 2, .int .u8 19, .int .u8 3, .int .u8 3, .int .u8 3, .int .u8 3, .int .u8 3, .int .u8 3, .int .u8 3, .int .u8 3, .int .u8 3, .int .u8 3, .int .u8 3, .int .u8 3, .int .u8 35, .int .u8 3, .int .u8 3, .int .u8 52, .int .u8 4, .int .u8 4, .int .u8 4, .int .u8 68, .int .u8 241, .int .u8 241, .int .u8 241, .int .u8 241, .int .u8 241, .int .u8 241, .int .u8 241, .int .u8 241, .int .u8 241, .int .u8 241, .int .u8 241] t fr | o => o) }
theorem aCd (os : Os) (args : Array Value) : laidMet Tryz.prog Rows.fnExactRunConsoleRow.laid ((VS os).forCall (fun _ _ => 0) ⟨#[], args, []⟩).memory := laidMet_of_run' 8 (by kernel_rfl) (by kernel_rfl)
theorem aCe (os : Os) {H : Type} (enc : TypeId × Value → H) : ∃ places, DataW.whole enc Tryz.prog ((VS os).forCall (fun _ _ => 0) ⟨#[], #[.string ByteArray.empty], []⟩).memory Tryz.f7.params.toList Rows.fnExactRunConsoleSpec.vars false [.string ByteArray.empty] 8 = some ([.lit (.string [])], [], places) := ⟨[], by kernel_rfl⟩
set_option maxRecDepth 100000 in
theorem lifted (os : Os) (started : os.Started) (H : Type) (enc : TypeId × Value → H) (F : Stop.Interp) :
  ReturnsInHanded {} Tryz.checked os 7 .any ((OpenSpec.ofChange Rows.fnExactRunConsoleSpec).preRow enc Tryz.prog Tryz.f7 Rows.fnExactRunConsoleRow.domain false Rows.fnExactRunConsoleRow.laid) (((OpenSpec.ofChange Rows.fnExactRunConsoleSpec).at F).post enc Tryz.prog Tryz.f7 false true false false) := by
 obtain ⟨places, hx⟩ := aCe os enc
 refine returnsInHanded_of_row (C := Tryz.checked) (s := OpenSpec.ofChange Rows.fnExactRunConsoleSpec) own started (by kernel_rfl) Tryz.func7
  (witness_row_at (enc := enc) (C := Tryz.checked) false (VS os) #[.string ByteArray.empty] rfl (by kernel_rfl) (by kernel_rfl) (by kernel_rfl)
   (OpenSpec.preRow_of_cond 8 hx (by kernel_rfl) (fun k hk => by cases hk) (by kernel_rfl) (aCd os _))) ?_
 intro W base args ds gs before hval hW _ _ _ hL hsh _
 exact aCc H enc W base args ds gs before hval hW hL hsh
theorem fQ {a b : Bool} (x : a = true) (y : b = true) : (a && b) = true := by rw [x, y]; rfl
theorem jf0 : (Rows.fnExactRunConsoleRow.wf (OpenSpec.ofChange Rows.fnExactRunConsoleSpec)) = true := by kernel_rfl
theorem jf1 : (laidOutB Tryz.prog) = true := by kernel_rfl
theorem jf2 : (mapsRowed Tryz.prog) = true := by kernel_rfl
theorem jf3 : (Tryz.f7.params.all (Tryz.prog.readableRec ·)) = true := by kernel_rfl
theorem jf4 : (namedTie Tryz.prog Rows.fnExactRunConsoleRow.named Rows.fnExactRunConsoleSpec.vars) = true := by kernel_rfl
theorem jf5 : ((Rows.fnExactRunConsoleRow.stops == [])) = true := by kernel_rfl
theorem jf6 : ((Tryz.prog.stops == [])) = true := by kernel_rfl
theorem jf7 : ((Rows.fnExactRunConsoleRow.knobs == [])) = true := by kernel_rfl
theorem jf8 : ((Tryz.prog.stopKnobs == [])) = true := by kernel_rfl
theorem jf9 : ((Rows.fnExactRunConsoleRow.inPlace == Tryz.prog.inPlace 7)) = true := by kernel_rfl
theorem aCp : ((Rows.fnExactRunConsoleRow.unfollowed == Tryz.prog.unfollowed 7)) = true := by kernel_rfl
theorem aCq : ((Rows.fnExactRunConsoleRow.recurses == Tryz.prog.recurses 7)) = true := by kernel_rfl
theorem aCr : ((Rows.fnExactRunConsoleRow.named == Tryz.prog.varsNamed 7)) = true := by kernel_rfl
theorem aCs : ((Rows.fnExactRunConsoleRow.maps == (Tryz.f7.params.toList ++ Rows.fnExactRunConsoleSpec.plain.varTypes Tryz.prog).any (Tryz.prog.mapsRec ·))) = true := by kernel_rfl
theorem aCt : ((Rows.fnExactRunConsoleRow.ifaces == (Tryz.f7.params.toList ++ Rows.fnExactRunConsoleSpec.plain.varTypes Tryz.prog).any (Tryz.prog.ifacesRec ·))) = true := by kernel_rfl
theorem aCu : ((Rows.fnExactRunConsoleRow.mapsOut == Tryz.prog.mapsAmong Tryz.f7.resultTypes.toList)) = true := by kernel_rfl
theorem aCv : ((Rows.fnExactRunConsoleRow.loops == (Tryz.f7.params.toList ++ Rows.fnExactRunConsoleSpec.plain.varTypes Tryz.prog).any (Tryz.prog.loopsFrom ·))) = true := by kernel_rfl
theorem aCw : ((Rows.fnExactRunConsoleRow.wideKeys == (Tryz.f7.params.toList ++ Rows.fnExactRunConsoleSpec.plain.varTypes Tryz.prog ++ Tryz.f7.resultTypes.toList).any (Tryz.prog.wideKeysFrom ·))) = true := by kernel_rfl
theorem aCx : (Rows.fnExactRunConsoleSpec.vars.all (Tryz.prog.varReadable ·)) = true := by kernel_rfl
theorem aCy : (Tryz.f7.resultTypes.all (fun t => Tryz.prog.readableRec t && decide (t < Tryz.prog.types.size))) = true := by kernel_rfl
theorem aCz : ((Rows.fnExactRunConsoleRow.ifacesOut == Tryz.f7.resultTypes.toList.any (Tryz.prog.ifacesRec ·))) = true := by kernel_rfl
theorem aCA : ((Rows.fnExactRunConsoleRow.loopsOut == Tryz.f7.resultTypes.toList.any (Tryz.prog.loopsFrom ·))) = true := by kernel_rfl
theorem aCB : ((Rows.fnExactRunConsoleRow.plainKeys == Tryz.prog.plainKeys)) = true := by kernel_rfl
theorem aCC : (Rows.fnExactRunConsoleRow.shortTexts.isNone) = true := by kernel_rfl
theorem aCD : (Tryz.prog.stopsHeard) = true := by kernel_rfl
theorem aCE : (Tryz.prog.mayEnter) = true := by kernel_rfl
theorem aCF : ((Rows.fnExactRunConsoleRow.lifted == Tryz.prog.liftsFinal)) = true := by kernel_rfl
theorem aCG : ((Tryz.prog.make == some Rows.fnExactRunConsoleRow.make)) = true := by kernel_rfl
theorem aCH : ((Rows.fnExactRunConsoleRow.kinds == (if Rows.fnExactRunConsoleRow.domain.isEmpty then [] else Tryz.f7.params.toList.map fun t => match Tryz.prog.underlying t with | some (.int k) => some k | _ => none))) = true := by kernel_rfl
theorem aCI : ((Rows.fnExactRunConsoleRow.pinned == Rows.fnExactRunConsoleRow.pinnedBy)) = true := by kernel_rfl
theorem aCJ : ((Rows.fnExactRunConsoleRow.veiled == (Tryz.f7.params.toList ++ Rows.fnExactRunConsoleSpec.plain.varTypes Tryz.prog ++ Tryz.f7.resultTypes.toList).any (Tryz.prog.veiledRec ·))) = true := by kernel_rfl
theorem aCK : (Rows.fnExactRunConsoleRow.veiledFits Tryz.prog Tryz.f7.params.toList (Tryz.f7.params.toList ++ Rows.fnExactRunConsoleSpec.plain.varTypes Tryz.prog ++ Tryz.f7.resultTypes.toList)) = true := by kernel_rfl
theorem aCL : joinedFacts Tryz.prog 7 Tryz.f7 Rows.fnExactRunConsoleSpec Rows.fnExactRunConsoleRow = true := (fQ (fQ (fQ (fQ (fQ (fQ (fQ (fQ (fQ (fQ (fQ (fQ (fQ (fQ (fQ (fQ (fQ (fQ (fQ (fQ (fQ (fQ (fQ (fQ (fQ (fQ (fQ (fQ (fQ (fQ (fQ jf0 jf1) jf2) jf3) jf4) jf5) jf6) jf7) jf8) jf9) aCp) aCq) aCr) aCs) aCt) aCu) aCv) aCw) aCx) aCy) aCz) aCA) aCB) aCC) aCD) aCE) aCF) aCG) aCH) aCI) aCJ) aCK)
theorem aCM : Rows.FnExactRunConsoleSaid :=
 OpenClaim.holds_of_cond 7 Tryz.f7 rfl rfl rfl rfl rfl rfl rfl ⟨rfl, rfl, rfl, rfl, rfl⟩ rfl rfl rfl rfl rfl (by kernel_rfl) Tryz.func7 aCL
  (of_decide_eq_true (by kernel_rfl)) (by unfold Func.isWrapper; first | (rw [if_pos (by decide +kernel)]; kernel_rfl) | (rw [if_neg (by decide +kernel)]; exact ⟨rfl, rfl⟩))
  (fun os started H enc _ F => by rw [OpenClaim.pre_eq_preRow]; exact lifted os started H enc F)
theorem plain (f : FuncId) (fn : Func) (hf : Tryz.pinned.checked.prog.funcNamed "loop.example/g01986/laws.FnExactRunConsole" = some f) (hfn : Tryz.pinned.checked.prog.funcs[f]? = some fn) :
  true = Tryz.pinned.checked.prog.looks [] ∧ ∀ (j : Nat) t, fn.params[j]? = some t → Tryz.pinned.checked.prog.wantsStandIn t = false := by
 obtain rfl : f = 7 := Option.some.inj ((show Tryz.prog.funcNamed "loop.example/g01986/laws.FnExactRunConsole" = some 7 by kernel_rfl).symm.trans hf) |>.symm
 obtain rfl : fn = Tryz.f7 := (Option.some.inj (Tryz.func7.symm.trans hfn)).symm
 refine ⟨by kernel_rfl, fun j t ht => ?_⟩
 rw [Tryz.params7] at ht
 have hm : t ∈ [9] := by simpa using Array.mem_of_getElem? ht
 have hall : ([9].all fun u => !Tryz.prog.wantsStandIn u) = true := by kernel_rfl
 exact (show Tryz.prog.wantsStandIn t = false by simpa using List.all_eq_true.1 hall t hm)
theorem aCN (P : Program) (h : P.funcs.any Func.goes = false) (f : FuncId) : P.goes f = false := by
 unfold Program.goes
 rw [h, Bool.and_false, Bool.or_false, List.any_eq_false]
 intro g _
 rw [Array.any_eq_false] at h
 cases e : P.funcs[g]? with
 | none => simp
 | some fn =>
  obtain ⟨hi, he⟩ := Array.getElem?_eq_some_iff.1 e
  have := h g hi
  rw [he] at this
  simpa using this
theorem aCO (c : OpenClaim) (P : Program) (hs : c.start = .entering) (h : P.funcs.any Func.goes = false) : false = c.goesBy P := by
 unfold OpenClaim.goesBy Program.goesAt Program.goesFrom
 rw [hs]
 cases P.funcNamed c.func with
 | none => rfl
 | some f => simp [aCN P h f]
theorem aCP : Tryz.pinned.checked.prog.funcs.any Func.goes = false := by kernel_rfl
theorem proved : Rows.FnExactRunConsoleCardSaid :=
 Claim7.holds_tied_plain_at .later [] _ _ _ _ aCM (fun _ h => by cases h) (by kernel_rfl) (fun _ h => by cases h) fnExactRunConsole_row_tie rfl ⟨rfl, rfl⟩ (by kernel_rfl) rfl plain (aCO _ _ rfl aCP)
#print axioms proved
end fnExactRunConsole
end Go.Proofs.YtmekkgdboplbjaaGreatDoor
