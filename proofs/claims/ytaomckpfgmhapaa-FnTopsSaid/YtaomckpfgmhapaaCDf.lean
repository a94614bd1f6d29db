/- Definitions and their laws. No condition. -/
import Derived.Test.YtaomckpfgmhapaaCDs
set_option linter.unusedVariables false
set_option linter.unusedSimpArgs false
namespace Go.Proofs.Ytaomckpfgmhapaa
open Go Go.RowKit M
set_option maxRecDepth 10000
def cmpFR (f : Int) (p : Row × Row) : Int := lexI (valAt p.1 f) (valAt p.2 f) (lexI p.1.Id p.2.Id 0)
def sortF (l : List Annotated) (f : Int) : List Annotated := if annOk l f then isort (lessQ (cmpF f)) l else []
theorem sortF_ok {l : List Annotated} {f : Int} (h : annOk l f = true) : sortF l f = isort (lessQ (cmpF f)) l := if_pos h
theorem sortF_no {l : List Annotated} {f : Int} (h : annOk l f = false) : sortF l f = [] := if_neg (by rw [h]; simp)
theorem sortF_nil {f : Int} : sortF [] f = [] := by unfold sortF; split <;> rfl
theorem annOk_f {l : List Annotated} {f : Int} (h : annOk l f = true) : 0 ≤ f ∧ f ≤ 2 := by
  unfold annOk at h
  rw [Bool.and_eq_true] at h
  have h2 := h.2
  simp [inB] at h2
  omega
theorem annOk_3 {l : List Annotated} {f : Int} (h : annOk l f = true) : ∀ x ∈ l, x.Row.Values.length = 3 := fun x hx => by
  unfold annOk at h
  rw [Bool.and_eq_true] at h
  exact okRow_len (List.all_eq_true.1 h.1 _ hx)
theorem isort_tmem {α : Type} {q : α → α → Bool} {l : List α} {i : Nat} {x : α} (h : x ∈ isort q (l.take i)) : x ∈ l := List.mem_of_mem_take ((perm_isort _).mem_iff.1 h)
theorem okA_at {m : List OkA} {l : List Annotated} (h : m.map (fun x => x.1) = l) {k : Nat} (hm : k < m.length) (hk : k < l.length) : (m[k]).1 = l[k] := by
  subst h; rw [List.getElem_map]
theorem okA_sort {m : List OkA} {l : List Annotated} {f : Int} (h : m.map (fun x => x.1) = l) : (isort (lessQ (qA f)) m).map (fun x => x.1) = isort (lessQ (cmpF f)) l := by
  subst h; exact isort_map (l1 := lessQ (qA f)) (l2 := lessQ (cmpF f)) (fun x : OkA => x.1) (fun _ _ => rfl) m
theorem sum_perm {a b : List Nat} (h : a.Perm b) : a.sum = b.sum := by
  induction h with
  | nil => rfl
  | cons x _ ih => rw [List.sum_cons, List.sum_cons, ih]
  | swap x y l => simp only [List.sum_cons]; omega
  | trans _ _ h1 h2 => rw [h1, h2]
theorem sortF_wt (l : List Annotated) (f : Int) : wtAnnotatedS (sortF l f) ≤ wtAnnotatedS l := by
  unfold sortF
  split
  · unfold wtAnnotatedS
    rw [isort_len, sum_perm ((perm_isort (lt := lessQ (cmpF f)) l).map wtAnnotated)]
    exact Nat.le_refl _
  · exact Nat.zero_le _

end Go.Proofs.Ytaomckpfgmhapaa
