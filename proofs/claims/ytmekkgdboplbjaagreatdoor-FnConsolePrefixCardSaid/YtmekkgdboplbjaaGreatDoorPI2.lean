/- Proved: for all arguments, with the tables of numbers as the library lays them, the law FnConsolePrefix answers true and leaves its arguments as they read: the tied card. No further condition. -/
import Derived.Test.YtmekkgdboplbjaaGreatDoorPG2
import Derived.Test.YtmekkgdboplbjaaGreatDoorPH2
import Derived.Test.YtmekkgdboplbjaaGreatDoorCards
import Derived.Test.YtmekkgdboplbjaaGreatDoorTie
import Derived.Deep.DeepHandedRow
import Derived.Stop.LaidErr
import Derived.Shelf.Vars
set_option linter.all false
namespace Go.Proofs.YtmekkgdboplbjaaGreatDoor
open Go Go.RowKit Go.ChangeShapes Go.WideShapes Go.ChangeAt M
set_option maxRecDepth 10000
namespace fnConsolePrefix
theorem own : ownKnob Tryz.prog.godebug = none := by kernel_rfl
theorem gT : (Tryz.prog.globals[3]?).map (·.type) = some 289 := by kernel_rfl
theorem cT : Tryz.prog.cellsOf 289 = 20 := by kernel_rfl
theorem cE : Tryz.prog.cellsOf 267 = 1 := by kernel_rfl
theorem auE {W : World} (h : laidMet Tryz.prog Rows.fnConsolePrefixRow.laid W) : Lib.TabIs Tryz.prog W "internal/strconv.uint64pow10" .u64 Lib.pow10Tab :=
 Lib.tabIs_of_head (rest := _) XQ gT Tryz.underlying289 Tryz.underlying267 cE cT (laidMet.tail (laidMet.tail h))
theorem auF : "*" ++ "errors.errorString" = "*errors.errorString" := by decide
theorem auG (u : TypeId) (h : Tryz.prog.typeName? 3 u = some "*errors.errorString") : u = 284 := typeName_ptr_named (nm := "errors.errorString") (by rw [auF]; kernel_rfl) (by kernel_rfl) (by decide) u (by rw [auF]; exact h)
theorem aIC {W : World} (h : laidMet Tryz.prog Rows.fnConsolePrefixRow.laid W) : ∃ a, W.cell? ⟨1, 0, none⟩ = some (.iface 284 (.pointer (some a))) := by
 obtain ⟨a, s, v, _⟩ := laid_sentinel (laidMet.tail (laidMet.tail (laidMet.tail (laidMet.tail (laidMet.tail h))))) (show Tryz.prog.globalNamed "strconv.ErrSyntax" = some 1 by kernel_rfl) (by kernel_rfl) Tryz.underlying160 auG Tryz.underlying284 Tryz.underlying286 rfl rfl Tryz.underlying9 (by kernel_rfl) (by kernel_rfl)
 exact ⟨a, by simpa using World.var?_cell (show Tryz.prog.globalNamed "strconv.ErrSyntax" = some 1 by kernel_rfl) v 0⟩
theorem aID {W : World} (h : laidMet Tryz.prog Rows.fnConsolePrefixRow.laid W) : ∃ a, W.cell? ⟨2, 0, none⟩ = some (.iface 284 (.pointer (some a))) := by
 obtain ⟨a, s, v, _⟩ := laid_sentinel (laidMet.tail (laidMet.tail (laidMet.tail (laidMet.tail h)))) (show Tryz.prog.globalNamed "strconv.ErrRange" = some 2 by kernel_rfl) (by kernel_rfl) Tryz.underlying160 auG Tryz.underlying284 Tryz.underlying286 rfl rfl Tryz.underlying9 (by kernel_rfl) (by kernel_rfl)
 exact ⟨a, by simpa using World.var?_cell (show Tryz.prog.globalNamed "strconv.ErrRange" = some 2 by kernel_rfl) v 0⟩
theorem glob {W : World} (h : laidMet Tryz.prog Rows.fnConsolePrefixRow.laid W) (hsh : W.ShapedOpen Tryz.prog) : gl.rel (zh W) W := by obtain ⟨m, hm⟩ := cell_of_shapedOpen_int (P := Tryz.prog) (g := 0) (t := 3) (zero := #[.int .i64 0]) hsh (of_decide_eq_true (by kernel_rfl)) (by kernel_rfl) rfl (by kernel_rfl) (by kernel_rfl) Tryz.underlying3;obtain ⟨a0, c0⟩ := aIC h;obtain ⟨a1, c1⟩ := aID h;exact ⟨⟨fun o => World.block_lt_of_cell? _ _ ((auE h).cell XQ 0 (by decide)), auE h⟩, ⟨World.block_lt_of_cell? _ _ hm, _, hm, _, rfl⟩, ⟨World.block_lt_of_cell? _ _ c0, _, c0, Or.inr ⟨_, _, rfl⟩⟩, ⟨World.block_lt_of_cell? _ _ c1, _, c1, Or.inr ⟨_, _, rfl⟩⟩⟩
theorem aIE (H : Type) (enc : TypeId × Value → H) (W : World) (base : Nat) (args : Array Value) (ds gs : List (DataW H)) (before : List MemPlace)
  (hval0 : ∀ (j : Nat) t v, Tryz.f8.params[j]? = some t → args[j]? = some v → Value.okWide Tryz.prog W .any base t v)
  (hW : DataW.Whole enc Tryz.prog Tryz.f8.params.toList Rows.fnConsolePrefixSpec.vars false W args.toList ds gs before) (hL : laidMet Tryz.prog Rows.fnConsolePrefixRow.laid W) (hsh : W.ShapedOpen Tryz.prog) :
  Calls Tryz.prog 8 args W fun e W' => ∃ v, e = .returned v ∧ Rows.fnConsolePrefixSpec.post enc Tryz.prog Tryz.f8 false true false false W args v W' := by
 have hval := hval0;have hW' := hW;obtain ⟨p, q, hA0, hV, rfl, hfz, hnd⟩ := hW;have hA : DataW.TrodAll enc Tryz.prog W 0 (fun _ => true) true Tryz.f8.params.toList args.toList ds p := hA0;rw [Tryz.params8] at hA hval;obtain ⟨v0, vs0, d0, ds0, p0, q0, hargs, rfl, rfl, h0, r0⟩ := trodAll_cons hA;obtain ⟨rfl, rfl, rfl⟩ := trodAll_nil r0;obtain rfl : args = #[v0] := by cases args; simp_all
 obtain ⟨rfl, rfl⟩ := trodVars_none hV;obtain ⟨a0, s0, g0⟩ := av8 XC aIB (hval 0 37 v0 rfl rfl) h0;clear hA0 hval0;have hc := av9 (W := W) (vs := [v0]) (aIz (code := a0) g0) (glob hL hsh) ⟨_, _, rfl, s0, rfl⟩;exact av6 (by kernel_rfl) (by kernel_rfl) hW' rfl (by kernel_rfl) Tryz.underlying4 rfl hc
noncomputable def low : Nat := (World.holding Tryz.prog default ⟨#[], #[], []⟩).heap.size
noncomputable def aap (os : Os) : World :=
 let w0 := World.holding Tryz.prog os ⟨#[.cells #[.string ⟨#[118, 97, 108, 117, 101, 32, 111, 117, 116, 32, 111, 102, 32, 114, 97, 110, 103, 101]⟩] 286, .cells #[.string ⟨#[105, 110, 118, 97, 108, 105, 100, 32, 115, 121, 110, 116, 97, 120]⟩] 286], #[], []⟩
 { w0 with heap := (((((((w0.heap.modify 6 fun | .cells _ t fr => .cells #[.int .u8 0, .int .u8 1, .int .u8 28, .int .u8 2, .int .u8 29, .int .u8 14, .int .u8 24, .int .u8 3, .int .u8 30, .int .u8 22, .int .u8 20, .int .u8 15, .int .u8 25, .int .u8 17, .int .u8 4, .int .u8 8, .int .u8 31, .int .u8 27, .int .u8 13, .int .u8 23, .int .u8 21, .int .u8 19, .int .u8 16, .int .u8 7, .int .u8 26, .int .u8 12, .int .u8 18, .int .u8 6, .int .u8 11, .int .u8 5, .int .u8 10, .int .u8 9] t fr | o => o).modify 7 fun | .cells _ t fr => .cells #[.int .u8 0, .int .u8 1, .int .u8 56, .int .u8 2, .int .u8 57, .int .u8 49, .int .u8 28, .int .u8 3, .int .u8 61, .int .u8 58, .int .u8 42, .int .u8 50, .int .u8 38, .int .u8 29, .int .u8 17, .int .u8 4, .int .u8 62, .int .u8 47, .int .u8 59, .int .u8 36, .int .u8 45, .int .u8 43, .int .u8 51, .int .u8 22, .int .u8 53, .int .u8 39, .int .u8 33, .int .u8 30, .int .u8 24, .int .u8 18, .int .u8 12, .int .u8 5, .int .u8 63, .int .u8 55, .int .u8 48, .int .u8 27, .int .u8 60, .int .u8 41, .int .u8 37, .int .u8 16, .int .u8 46, .int .u8 35, .int .u8 44, .int .u8 21, .int .u8 52, .int .u8 32, .int .u8 23, .int .u8 11, .int .u8 54, .int .u8 26, .int .u8 40, .int .u8 15, .int .u8 34, .int .u8 20, .int .u8 31, .int .u8 10, .int .u8 25, .int .u8 14, .int .u8 19, .int .u8 9, .int .u8 13, .int .u8 8, .int .u8 7, .int .u8 6] t fr | o => o).modify 3 fun | .cells _ t fr => .cells #[.int .u64 1, .int .u64 10, .int .u64 100, .int .u64 1000, .int .u64 10000, .int .u64 100000, .int .u64 1000000, .int .u64 10000000, .int .u64 100000000, .int .u64 1000000000, .int .u64 10000000000, .int .u64 100000000000, .int .u64 1000000000000, .int .u64 10000000000000, .int .u64 100000000000000, .int .u64 1000000000000000, .int .u64 10000000000000000, .int .u64 100000000000000000, .int .u64 1000000000000000000, .int .u64 10000000000000000000] t fr | o => o).modify 5 fun | .cells _ t fr => .cells #[.int .u8 128, .int .u8 191, .int .u8 160, .int .u8 191, .int .u8 128, .int .u8 159, .int .u8 144, .int .u8 191, .int .u8 128, .int .u8 143, .int .u8 0, .int .u8 0, .int .u8 0, .int .u8 0, .int .u8 0, .int .u8 0, .int .u8 0, .int .u8 0, .int .u8 0, .int .u8 0, .int .u8 0, .int .u8 0, .int .u8 0, .int .u8 0, .int .u8 0, .int .u8 0, .int .u8 0, .int .u8 0, .int .u8 0, .int .u8 0, .int .u8 0, .int .u8 0] t fr | o => o).modify 2 fun | .cells _ t fr => .cells #[.iface 284 (.pointer (some ⟨low + 0, 0, none⟩))] t fr | o => o).modify 1 fun | .cells _ t fr => .cells #[.iface 284 (.pointer (some ⟨low + 1, 0, none⟩))] t fr | o => o).modify 4 fun | .cells _ t fr => .cells #[.int .u8 240, .int .u8 240, .int .u8 240, .int .u8 240, .int .u8 240, .int .u8 240, .int .u8 240, .int .u8 240, .int .u8 240, .int .u8 240, .int .u8 240, .int .u8 240, .int .u8 240, .int .u8 240, .int .u8 240, .int .u8 240, .int .u8 240, .int .u8 240, .int .u8 240, .int .u8 240, .int .u8 240, .int .u8 240, .int .u8 240, .int .u8 240, .int .u8 240, .int .u8 240, .int .u8 240, .int .u8 240, .int .u8 240, .int .u8 240, .int .u8 240, .int .u8 240, .int .u8 240, .int .u8 240, .int .u8 240, .int .u8 240, .int .u8 240, .int .u8 240, .int .u8 240, .int .u8 240, .int .u8 240, .int .u8 240, .int .u8 240, .int .u8 240, .int .u8 240, .int .u8 240, .int .u8 240, .int .u8 240, .int .u8 240, .int .u8 240, .int .u8 240, .int .u8 240, .int .u8 240, .int .u8 240, .int .u8 240, .int .u8 240, .int .u8 240, .int .u8 240, .int .u8 240, .int .u8 240, .int .u8 240, .int .u8 240, .int .u8 240, .int .u8 240, .int .u8 240, .int .u8 240, .int .u8 240, .int .u8 240, .int .u8 240, .int .u8 240, .int .u8 240, .int .u8 240, .int .u8 240, .int .u8 240, .int .u8 240, .int .u8 240, .int .u8 240, .int .u8 240, .int .u8 240, .int .u8 240, .int .u8 240, .int .u8 240, .int .u8 240, .int .u8 240, .int .u8 240, .int .u8 240, .int .u8 240, .int .u8 240, .int .u8 240, .int .u8 240, .int .u8 240, .int .u8 240, .int .u8 240, .int .u8 240, .int .u8 240, .int .u8 240, .int .u8 240, .int .u8 240, .int .u8 240, .int .u8 240, .int .u8 240, .int .u8 240, .int .u8 240, .int .u8 240, .int .u8 240, .int .u8 240, .int .u8 240, .int .u8 240, .int .u8 240, .int .u8 240, .int .u8 240, .int .u8 240, .int .u8 240, .int .u8 240, .int .u8 240, .int .u8 240, .int .u8 240, .int .u8 240, .int .u8 240, .int .u8 240, .int .u8 240, .int .u8 240, .int .u8 240, .int .u8 240, .int .u8 240, .int .u8 240, .int .u8 240, .int .u8 240, .int .u8 241, .int .u8 241, .int .u8 241, .int .u8 241, .int .u8 241, .int .u8 241, .int .u8 241, .int .u8 241, .int .u8 241, .int .u8 241, .int .u8 241, .int .u8 241, .int .u8 241, .int .u8 241, .int .u8 241, .int .u8 241, .int .u8 241, .int .u8 241, .int .u8 241, .int .u8 241, .int .u8 241, .int .u8 241, .int .u8 241, .int .u8 241, .int .u8 241, .int .u8 241, .int .u8 241, .int .u8 241, .int .u8 241, .int .u8 241, .int .u8 241, .int .u8 241, .int .u8 241, .int .u8 241, .int .u8 241, .int .u8 241, .int .u8 241, .int .u8 241, .int .u8 241, .int .u8 241, .int .u8 241, .int .u8 241, .int .u8 241, .int .u8 241, .int .u8 241, .int .u8 241, .int .u8 241, .int .u8 241, .int .u8 241, .int .u8 241, .int .u8 241, .int .u8 241, .int .u8 241, .int .u8 241, .int .u8 241, .int .u8 241, .int .u8 241, .int .u8 241, .int .u8 241, .int .u8 241, .int .u8 241, .int .u8 241, .int .u8 241, .int .u8 241, .int .u8 241, .int .u8 241, .int .u8 2, .int .u8 2, .int .u8 2, .int .u8 2, .int .u8 2, .int .u8 2, .int .u8 2, .int .u8 2, .int .u8 2, .int .u8 2, .int .u8 2, .int .u8 2, .int .u8 2, .int .u8 2, .int .u8 2, .int .u8 2, .int .u8 2, .int .u8 2, .int .u8 2, .int .u8 2, .int .u8 2, .int .u8 2, .int .u8 2, .int .u8 2, .int .u8 2, .int .u8 2, .int .u8 2, .int .u8 2, .int .u8 2, .int .u8 2, .int .u8 19, .int .u8 3, .int .u8 3, .int .u8 3, .int .u8 3, .int .u8 3, .int .u8 3, .int .u8 3, .int .u8 3, .int .u8 3, .int .u8 3, .int .u8 3, .int .u8 3, .int .u8 35, .int .u8 3, .int .u8 3, .int .u8 52, .int .u8 4, .int .u8 4, .int .u8 4, .int .u8 68, .int .u8 241, .int .u8 241, .int .u8 241, .int .u8 241, .int .u8 241, .int .u8 241, .int .u8 241, .int .u8 241, .int .u8 241, .int .u8 241, .int .u8 241] t fr | o => o) }
theorem aIF (os : Os) (args : Array Value) : laidMet Tryz.prog Rows.fnConsolePrefixRow.laid ((aap os).forCall (fun _ _ => 0) ⟨#[], args, []⟩).memory := laidMet_of_run' 8 (by kernel_rfl) (by kernel_rfl)
theorem aIG (os : Os) {H : Type} (enc : TypeId × Value → H) : ∃ places, DataW.whole enc Tryz.prog ((aap os).forCall (fun _ _ => 0) ⟨#[], #[.slice none 0 0], []⟩).memory Tryz.f8.params.toList Rows.fnConsolePrefixSpec.vars false [.slice none 0 0] 8 = some ([.nil], [], places) := ⟨[], by kernel_rfl⟩
set_option maxRecDepth 100000 in
theorem lifted (os : Os) (started : os.Started) (H : Type) (enc : TypeId × Value → H) (F : Stop.Interp) :
  ReturnsInHanded {} Tryz.checked os 8 .any ((OpenSpec.ofChange Rows.fnConsolePrefixSpec).preRow enc Tryz.prog Tryz.f8 Rows.fnConsolePrefixRow.domain false Rows.fnConsolePrefixRow.laid) (((OpenSpec.ofChange Rows.fnConsolePrefixSpec).at F).post enc Tryz.prog Tryz.f8 false true false false) := by
 obtain ⟨places, hx⟩ := aIG os enc
 refine returnsInHanded_of_row (C := Tryz.checked) (s := OpenSpec.ofChange Rows.fnConsolePrefixSpec) own started (by kernel_rfl) Tryz.func8
  (witness_row_at (enc := enc) (C := Tryz.checked) false (aap os) #[.slice none 0 0] rfl (by kernel_rfl) (by kernel_rfl) (by kernel_rfl)
   (OpenSpec.preRow_of_cond 8 hx (by kernel_rfl) (fun k hk => by cases hk) (by kernel_rfl) (aIF os _))) ?_
 intro W base args ds gs before hval hW _ _ _ hL hsh _;exact aIE H enc W base args ds gs before hval hW hL hsh
theorem gG {a b : Bool} (x : a = true) (y : b = true) : (a && b) = true := by rw [x, y]; rfl
theorem jf0 : (Rows.fnConsolePrefixRow.wf (OpenSpec.ofChange Rows.fnConsolePrefixSpec)) = true := by kernel_rfl
theorem jf1 : (laidOutB Tryz.prog) = true := by kernel_rfl
theorem jf2 : (mapsRowed Tryz.prog) = true := by kernel_rfl
theorem jf3 : (Tryz.f8.params.all (Tryz.prog.readableRec ·)) = true := by kernel_rfl
theorem jf4 : (namedTie Tryz.prog Rows.fnConsolePrefixRow.named Rows.fnConsolePrefixSpec.vars) = true := by kernel_rfl
theorem jf5 : ((Rows.fnConsolePrefixRow.stops == [])) = true := by kernel_rfl
theorem jf6 : ((Tryz.prog.stops == [])) = true := by kernel_rfl
theorem jf7 : ((Rows.fnConsolePrefixRow.knobs == [])) = true := by kernel_rfl
theorem jf8 : ((Tryz.prog.stopKnobs == [])) = true := by kernel_rfl
theorem jf9 : ((Rows.fnConsolePrefixRow.inPlace == Tryz.prog.inPlace 8)) = true := by kernel_rfl
theorem aIR : ((Rows.fnConsolePrefixRow.unfollowed == Tryz.prog.unfollowed 8)) = true := by kernel_rfl
theorem aIS : ((Rows.fnConsolePrefixRow.recurses == Tryz.prog.recurses 8)) = true := by kernel_rfl
theorem aIT : ((Rows.fnConsolePrefixRow.named == Tryz.prog.varsNamed 8)) = true := by kernel_rfl
theorem aIU : ((Rows.fnConsolePrefixRow.maps == (Tryz.f8.params.toList ++ Rows.fnConsolePrefixSpec.plain.varTypes Tryz.prog).any (Tryz.prog.mapsRec ·))) = true := by kernel_rfl
theorem aIV : ((Rows.fnConsolePrefixRow.ifaces == (Tryz.f8.params.toList ++ Rows.fnConsolePrefixSpec.plain.varTypes Tryz.prog).any (Tryz.prog.ifacesRec ·))) = true := by kernel_rfl
theorem aIW : ((Rows.fnConsolePrefixRow.mapsOut == Tryz.prog.mapsAmong Tryz.f8.resultTypes.toList)) = true := by kernel_rfl
theorem aIX : ((Rows.fnConsolePrefixRow.loops == (Tryz.f8.params.toList ++ Rows.fnConsolePrefixSpec.plain.varTypes Tryz.prog).any (Tryz.prog.loopsFrom ·))) = true := by kernel_rfl
theorem aIY : ((Rows.fnConsolePrefixRow.wideKeys == (Tryz.f8.params.toList ++ Rows.fnConsolePrefixSpec.plain.varTypes Tryz.prog ++ Tryz.f8.resultTypes.toList).any (Tryz.prog.wideKeysFrom ·))) = true := by kernel_rfl
theorem aIZ : (Rows.fnConsolePrefixSpec.vars.all (Tryz.prog.varReadable ·)) = true := by kernel_rfl
theorem aI0 : (Tryz.f8.resultTypes.all (fun t => Tryz.prog.readableRec t && decide (t < Tryz.prog.types.size))) = true := by kernel_rfl
theorem aI1 : ((Rows.fnConsolePrefixRow.ifacesOut == Tryz.f8.resultTypes.toList.any (Tryz.prog.ifacesRec ·))) = true := by kernel_rfl
theorem aI2 : ((Rows.fnConsolePrefixRow.loopsOut == Tryz.f8.resultTypes.toList.any (Tryz.prog.loopsFrom ·))) = true := by kernel_rfl
theorem aI3 : ((Rows.fnConsolePrefixRow.plainKeys == Tryz.prog.plainKeys)) = true := by kernel_rfl
theorem aI4 : (Rows.fnConsolePrefixRow.shortTexts.isNone) = true := by kernel_rfl
theorem aI5 : (Tryz.prog.stopsHeard) = true := by kernel_rfl
theorem aI6 : (Tryz.prog.mayEnter) = true := by kernel_rfl
theorem aI7 : ((Rows.fnConsolePrefixRow.lifted == Tryz.prog.liftsFinal)) = true := by kernel_rfl
theorem aI8 : ((Tryz.prog.make == some Rows.fnConsolePrefixRow.make)) = true := by kernel_rfl
theorem aI9 : ((Rows.fnConsolePrefixRow.kinds == (if Rows.fnConsolePrefixRow.domain.isEmpty then [] else Tryz.f8.params.toList.map fun t => match Tryz.prog.underlying t with | some (.int k) => some k | _ => none))) = true := by kernel_rfl
theorem aJa : ((Rows.fnConsolePrefixRow.pinned == Rows.fnConsolePrefixRow.pinnedBy)) = true := by kernel_rfl
theorem aJb : ((Rows.fnConsolePrefixRow.veiled == (Tryz.f8.params.toList ++ Rows.fnConsolePrefixSpec.plain.varTypes Tryz.prog ++ Tryz.f8.resultTypes.toList).any (Tryz.prog.veiledRec ·))) = true := by kernel_rfl
theorem aJc : (Rows.fnConsolePrefixRow.veiledFits Tryz.prog Tryz.f8.params.toList (Tryz.f8.params.toList ++ Rows.fnConsolePrefixSpec.plain.varTypes Tryz.prog ++ Tryz.f8.resultTypes.toList)) = true := by kernel_rfl
theorem aJd : joinedFacts Tryz.prog 8 Tryz.f8 Rows.fnConsolePrefixSpec Rows.fnConsolePrefixRow = true := (gG (gG (gG (gG (gG (gG (gG (gG (gG (gG (gG (gG (gG (gG (gG (gG (gG (gG (gG (gG (gG (gG (gG (gG (gG (gG (gG (gG (gG (gG (gG jf0 jf1) jf2) jf3) jf4) jf5) jf6) jf7) jf8) jf9) aIR) aIS) aIT) aIU) aIV) aIW) aIX) aIY) aIZ) aI0) aI1) aI2) aI3) aI4) aI5) aI6) aI7) aI8) aI9) aJa) aJb) aJc)
theorem aJe : Rows.FnConsolePrefixSaid :=
 OpenClaim.holds_of_cond 8 Tryz.f8 rfl rfl rfl rfl rfl rfl rfl ⟨rfl, rfl, rfl, rfl, rfl⟩ rfl rfl rfl rfl rfl (by kernel_rfl) Tryz.func8 aJd
  (of_decide_eq_true (by kernel_rfl)) (by unfold Func.isWrapper; first | (rw [if_pos (by decide +kernel)]; kernel_rfl) | (rw [if_neg (by decide +kernel)]; exact ⟨rfl, rfl⟩))
  (fun os started H enc _ F => by rw [OpenClaim.pre_eq_preRow]; exact lifted os started H enc F)
theorem plain (f : FuncId) (fn : Func) (hf : Tryz.pinned.checked.prog.funcNamed "loop.example/g01986/laws.FnConsolePrefix" = some f) (hfn : Tryz.pinned.checked.prog.funcs[f]? = some fn) :
  true = Tryz.pinned.checked.prog.looks [] ∧ ∀ (j : Nat) t, fn.params[j]? = some t → Tryz.pinned.checked.prog.wantsStandIn t = false := by
 obtain rfl : f = 8 := Option.some.inj ((show Tryz.prog.funcNamed "loop.example/g01986/laws.FnConsolePrefix" = some 8 by kernel_rfl).symm.trans hf) |>.symm
 obtain rfl : fn = Tryz.f8 := (Option.some.inj (Tryz.func8.symm.trans hfn)).symm;refine ⟨by kernel_rfl, fun j t ht => ?_⟩;rw [Tryz.params8] at ht;have hm : t ∈ [37] := by simpa using Array.mem_of_getElem? ht
 have hall : ([37].all fun u => !Tryz.prog.wantsStandIn u) = true := by kernel_rfl
 exact (show Tryz.prog.wantsStandIn t = false by simpa using List.all_eq_true.1 hall t hm)
theorem aJf (P : Program) (h : P.funcs.any Func.goes = false) (f : FuncId) : P.goes f = false := by
 unfold Program.goes;rw [h, Bool.and_false, Bool.or_false, List.any_eq_false];intro g _;rw [Array.any_eq_false] at h;cases e : P.funcs[g]? with
 | none => simp
 | some fn =>
  obtain ⟨hi, he⟩ := Array.getElem?_eq_some_iff.1 e;have := h g hi;rw [he] at this;simpa using this
theorem aJg (c : OpenClaim) (P : Program) (hs : c.start = .entering) (h : P.funcs.any Func.goes = false) : false = c.goesBy P := by
 unfold OpenClaim.goesBy Program.goesAt Program.goesFrom;rw [hs];cases P.funcNamed c.func with
 | none => rfl
 | some f => simp [aJf P h f]
theorem aJh : Tryz.pinned.checked.prog.funcs.any Func.goes = false := by kernel_rfl
theorem proved : Rows.FnConsolePrefixCardSaid :=
 Claim7.holds_tied_plain_at .later [] _ _ _ _ aJe (fun _ h => by cases h) (by kernel_rfl) (fun _ h => by cases h) fnConsolePrefix_row_tie rfl ⟨rfl, rfl⟩ (by kernel_rfl) rfl plain (aJg _ _ rfl aJh)
#print axioms proved
end fnConsolePrefix
end Go.Proofs.YtmekkgdboplbjaaGreatDoor
