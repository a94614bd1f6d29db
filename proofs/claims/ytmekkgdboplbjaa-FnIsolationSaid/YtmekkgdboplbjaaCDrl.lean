/- Definitions and their laws. No condition. -/
import Derived.Test.YtmekkgdboplbjaaCDe
set_option linter.unusedVariables false
set_option linter.unusedSimpArgs false
namespace Go.Proofs.Ytmekkgdboplbjaa
open Go Go.RowKit M
set_option maxRecDepth 10000
def cntV (s : Store) : Nat := (allV s).length
def cntTo (s : Store) (k : Nat) : Nat := (preN s k).length
theorem cntTo_succ {s : Store} {k : Nat} (hk : k < s.Segments.length) : cntTo s (k + 1) = cntTo s k + s.Segments[k].length := by unfold cntTo; rw [preN_succ hk, List.length_append]
theorem cntTo_le {s : Store} (k : Nat) (hk : k ≤ s.Segments.length) : cntTo s k ≤ cntV s := by
 unfold cntTo cntV preN allV
 have e : s.Segments.flatten = (s.Segments.take k).flatten ++ (s.Segments.drop k).flatten := by rw [← List.flatten_append, List.take_append_drop]
 rw [e, List.length_append]; omega
def needV (v : Version) (keep : List Int) : Bool := decide (v.Died = -1) || keep.any (visV v)
theorem need_yes {v : Version} {keep : List Int} {k : Nat} (hk : k < keep.length) (h : visV v keep[k] = true) : needV v keep = true := by unfold needV; rw [any_yes hk h]; simp
theorem need_end {v : Version} {keep : List Int} (h : keep.any (visV v) = false) : needV v keep = decide (v.Died = -1) := by unfold needV; rw [h]; simp
def needTo (v : Version) (keep : List Int) (k : Nat) : Bool := decide (v.Died = -1) || (keep.take k).any (visV v)
def keptL (keep : List Int) (l : List Version) : List Version := l.filter fun v => needV v keep
def reclaimS (s : Store) (keep : List Int) : Store := if okStore s then ⟨s.Segments.map (keptL keep), s.Now⟩ else s
def filtZ (keep : List Int) (zs : List (Version × (Nat → Value))) : List (Version × (Nat → Value)) := zs.filter fun z => needV z.1 keep
def fzTo (zss : List (List (Version × (Nat → Value)))) (keep : List Int) (k : Nat) : List (List (Version × (Nat → Value))) := (zss.take k).map (filtZ keep) ++ zss.drop k
section
variable {zss : List (List (Version × (Nat → Value)))} {keep : List Int} {k : Nat} {segs : List (List Version)}
theorem fz_len : (fzTo zss keep k).length = zss.length := by unfold fzTo; simp; omega
theorem fz_get (hk : k < zss.length) (h : k < (fzTo zss keep k).length) : (fzTo zss keep k)[k]'h = zss[k] := by
 have h1 : (fzTo zss keep k)[k]? = some zss[k] := by
  unfold fzTo
  rw [List.getElem?_append_right (by simp; omega)]
  simp [Nat.min_eq_left (Nat.le_of_lt hk), hk]
 exact (List.getElem?_eq_some_iff.1 h1).2
theorem fz_set (hk : k < zss.length) : (fzTo zss keep k).set k (filtZ keep zss[k]) = fzTo zss keep (k + 1) := by
 unfold fzTo
 have hl : ((zss.take k).map (filtZ keep)).length = k := by rw [List.length_map, List.length_take]; omega
 rw [List.set_append_right _ _ (by omega), hl, Nat.sub_self, List.drop_eq_getElem_cons hk, List.set_cons_zero, List.take_succ_eq_append_getElem hk, List.map_append]
 simp
theorem fz_end : fzTo zss keep zss.length = zss.map (filtZ keep) := by unfold fzTo; simp
theorem fz_sub : (zss.map (filtZ keep)).flatten.Sublist zss.flatten := by
 induction zss with
 | nil => exact List.Sublist.slnil
 | cons z l ih => rw [List.map_cons, List.flatten_cons, List.flatten_cons]; exact List.Sublist.append List.filter_sublist ih
theorem fz_fst (hz : zss.map (List.map Prod.fst) = segs) : (zss.map (filtZ keep)).map (List.map Prod.fst) = segs.map (keptL keep) := by
 rw [← hz, List.map_map, List.map_map]
 refine List.map_congr_left fun zs _ => ?_
 simp only [Function.comp_apply, filtZ, keptL, List.filter_map]
 rfl
theorem zss_len (hz : zss.map (List.map Prod.fst) = segs) : zss.length = segs.length := by rw [← hz, List.length_map]
theorem zss_at (hz : zss.map (List.map Prod.fst) = segs) (hk : k < zss.length) (hk2 : k < segs.length) : zss[k].map Prod.fst = segs[k] := by subst hz; simp
theorem zss_at2 (hz : zss.map (List.map Prod.fst) = segs) (hk : k < zss.length) (hk2 : k < segs.length) : zss[k].length = segs[k].length := by rw [← zss_at hz hk hk2, List.length_map]
theorem zss_at3 (hz : zss.map (List.map Prod.fst) = segs) (hk : k < zss.length) (hk2 : k < segs.length) {j : Nat} (hj : j < zss[k].length) (hj2 : j < segs[k].length) : zss[k][j].1 = segs[k][j] := by
 subst hz; simp
theorem filtZ_yes {zs : List (Version × (Nat → Value))} {j : Nat} (hj : j < zs.length) (h : needV zs[j].1 keep = true) : filtZ keep (zs.take (j + 1)) = filtZ keep (zs.take j) ++ [zs[j]] := by
 unfold filtZ; rw [List.take_succ_eq_append_getElem hj, List.filter_append]; simp [h]
theorem filtZ_no {zs : List (Version × (Nat → Value))} {j : Nat} (hj : j < zs.length) (h : needV zs[j].1 keep = false) : filtZ keep (zs.take (j + 1)) = filtZ keep (zs.take j) := by
 unfold filtZ; rw [List.take_succ_eq_append_getElem hj, List.filter_append]; simp [h]
theorem filtZ_le {zs : List (Version × (Nat → Value))} {j : Nat} : (filtZ keep (zs.take j)).length ≤ j := by
 have := List.length_filter_le (fun z : Version × (Nat → Value) => needV z.1 keep) (zs.take j)
 rw [List.length_take] at this
 unfold filtZ; omega
end
def preV (s : Store) (i j : Nat) : List Version := (s.Segments.take i).flatten ++ (s.Segments.getD i []).take j
def cntD (s : Store) (keep : List Int) (i j : Nat) : Nat := ((preV s i j).filter fun v => !needV v keep).length
theorem kept_wt (keep : List Int) : ∀ l : List Version, wtVersionS (keptL keep l) ≤ wtVersionS l
 | [] => Nat.le_refl _
 | v :: l => by
  have ih := kept_wt keep l
  unfold keptL wtVersionS at *
  rw [List.filter_cons]
  split <;> simp only [List.length_cons, List.map_cons, List.sum_cons] <;> omega
theorem reclaim_wt (s : Store) (keep : List Int) : wtStore (reclaimS s keep) ≤ wtStore s := by
 unfold reclaimS
 split
 ·unfold wtStore wtVersionSS
  dsimp only
  rw [List.length_map, List.map_map]
  have : (s.Segments.map (wtVersionS ∘ keptL keep)).sum ≤ (s.Segments.map wtVersionS).sum := by
   generalize s.Segments = l
   induction l with
   | nil => exact Nat.le_refl _
   | cons x l ih => simp only [List.map_cons, List.sum_cons, Function.comp] at *; have := kept_wt keep x; omega
  omega
 ·exact Nat.le_refl _
theorem reclaim_yes {s : Store} {keep : List Int} (h : okStore s = true) : reclaimS s keep = ⟨s.Segments.map (keptL keep), s.Now⟩ := if_pos h
theorem reclaim_no {s : Store} {keep : List Int} (h : okStore s = false) : reclaimS s keep = s := if_neg (by rw [h]; simp)
def cntR (s : Store) (keep : List Int) : Int := if okStore s then (cntV s : Int) - (cntV (reclaimS s keep) : Int) else 0
def cntX (s : Store) (keep : List Int) : Int := if okStore s then (cntD s keep s.Segments.length 0 : Int) else 0
def timesA (l : List Active) : List Int := l.map fun a => a.Time
def reclaimE (e : Engine) : Engine := ⟨reclaimS e.Store (timesA e.Active), e.Cursor, e.Order, e.Active, e.Done, e.Ledger, e.Steps⟩
def nVer (z : Version × (Nat → Value)) : List PV := [PV.nv (z.2 0) (PV.val (vI z.1.Id)), PV.nv (z.2 1) (PV.sl .v (z.1.Values.map cInt)), PV.nv (z.2 2) (PV.val (vI z.1.Born)), PV.nv (z.2 3) (PV.val (vI z.1.Died))]
def nVerS (zs : List (Version × (Nat → Value))) : List PV := [PV.sl (.own 107 4) (zs.map nVer)]
end Go.Proofs.Ytmekkgdboplbjaa
