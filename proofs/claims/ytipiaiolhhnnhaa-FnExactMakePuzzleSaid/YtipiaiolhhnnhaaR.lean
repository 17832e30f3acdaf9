/- Opening a law's arguments that are structs, or slices of structs of whole numbers. -/
import Derived.Test.YtipiaiolhhnnhaaH
import Derived.Test.YtipiaiolhhnnhaaWSized
import Derived.Lib.SmallJoins
import Derived.Deep.Slices
import Derived.Deep.Fields
import Derived.ChangeSame
namespace Go.Proofs.YtipiaiolhhnnhaaH
open Go.RowKit Go.Joins Go.ChangeShapes Go.WideShapes Go.Deep Go.Proofs.YtipiaiolhhnnhaaW.PrintWords
set_option linter.unusedVariables false
set_option linter.unusedSimpArgs false

theorem list_of {α : Type} (F : Nat → α → Prop) (n : Nat) (h : ∀ i, i < n → ∃ x, F i x) : ∃ xs : List α, xs.length = n ∧ ∀ j x, xs[j]? = some x → F j x := by
  induction n with
  | zero => exact ⟨[], rfl, fun j x hx => by simp at hx⟩
  | succ n ih =>
    obtain ⟨xs, hl, hx⟩ := ih (fun i hi => h i (by omega))
    obtain ⟨y, hy⟩ := h n (by omega)
    refine ⟨xs ++ [y], by simp [hl], fun j x hj => ?_⟩
    by_cases hlt : j < n
    · rw [List.getElem?_append_left (by omega)] at hj
      exact hx j x hj
    · have : j < (xs ++ [y]).length := (List.getElem?_eq_some_iff.1 hj).1
      simp [hl] at this
      have e : j = n := by omega
      subst e
      simp [hl] at hj
      subst hj
      exact hy
section
variable {H : Type} {enc : TypeId × Value → H} {P : Program} {w : World} {base : Nat} {spare : Nat → Bool} {held : Bool}
theorem open_three {fuel : Nat} {e : TypeId} {f0 f1 f2 : Field} {cs : List Value} {x : DataW H × List MemPlace} (he : P.underlying e = some (.struct #[f0, f1, f2])) (hone : oneCellFields P #[f0, f1, f2] = true)
    (h0 : P.underlying f0.type = some (.int .i64)) (h1 : P.underlying f1.type = some (.int .i64)) (h2 : P.underlying f2.type = some (.int .i64)) (hl : cs.length = 3)
    (h : DataW.trod enc P w base spare held fuel e cs = some x) : ∃ a b c : Int, cs = [.int .i64 a, .int .i64 b, .int .i64 c] ∧ (Lit.int .i64 a).wf = true ∧ (Lit.int .i64 b).wf = true ∧ (Lit.int .i64 c).wf = true := by
  obtain ⟨ys, n, _, hx, _, hlen, hg⟩ := DataW.trod_struct he h
  obtain ⟨o0, k0⟩ := hone_of hone 0 f0 rfl
  obtain ⟨o1, k1⟩ := hone_of hone 1 f1 rfl
  obtain ⟨o2, k2⟩ := hone_of hone 2 f2 rfl
  match cs, hl with
  | [c0, c1, c2], _ =>
    have g0 := hg 0 f0 rfl
    have g1 := hg 1 f1 rfl
    have g2 := hg 2 f2 rfl
    rw [o0, k0] at g0
    rw [o1, k1] at g1
    rw [o2, k2] at g2
    match ys, hlen with
    | [y0, y1, y2], _ =>
      obtain ⟨a, ha, _, wa⟩ := DataW.trod_int h0 g0
      obtain ⟨b, hb, _, wb⟩ := DataW.trod_int h1 g1
      obtain ⟨c, hc, _, wc⟩ := DataW.trod_int h2 g2
      simp at ha hb hc
      subst ha hb hc
      exact ⟨a, b, c, rfl, wa, wb, wc⟩
/-- A slice of structs of three whole numbers. -/
theorem open_rows3 {t e : TypeId} {fuel : Nat} {f0 f1 f2 : Field} {cs : List Value} {x : DataW H × List MemPlace} (ht : P.underlying t = some (.slice e)) (he : P.underlying e = some (.struct #[f0, f1, f2])) (hone : oneCellFields P #[f0, f1, f2] = true) (hC : P.cellsOf e = 3)
    (h0 : P.underlying f0.type = some (.int .i64)) (h1 : P.underlying f1.type = some (.int .i64)) (h2 : P.underlying f2.type = some (.int .i64)) (h : DataW.trod enc P w base spare held fuel t cs = some x) :
    ∃ (A : Option Addr) (n c : Nat) (xs : List (Int × Int × Int)), cs = [.slice A n c] ∧ n ≤ c ∧ c ≤ maxLen ∧ xs.length = n ∧ (∀ y ∈ xs, (Lit.int .i64 y.1).wf = true ∧ (Lit.int .i64 y.2.1).wf = true ∧ (Lit.int .i64 y.2.2).wf = true) ∧
      (0 < n → ∃ a, A = some a ∧ ∀ j y, xs[j]? = some y → w.cell? (a.add (j * 3)) = some (.int .i64 y.1) ∧ w.cell? (a.add (j * 3 + 1)) = some (.int .i64 y.2.1) ∧ w.cell? (a.add (j * 3 + 2)) = some (.int .i64 y.2.2)) := by
  rcases open_slice ht h with ⟨rfl, _⟩ | ⟨a, len, cap, m, n, D, Pl, rfl, hb, hl, hm, hmm, hx, hi⟩
  · exact ⟨none, 0, 0, [], rfl, by omega, by simp [maxLen], rfl, by simp, fun h => by omega⟩
  · have hlm : len ≤ m := by rw [hmm]; split <;> omega
    obtain ⟨xs, hxl, hxs⟩ := list_of (fun j (y : Int × Int × Int) => (w.cell? (a.add (j * 3)) = some (.int .i64 y.1) ∧ w.cell? (a.add (j * 3 + 1)) = some (.int .i64 y.2.1) ∧ w.cell? (a.add (j * 3 + 2)) = some (.int .i64 y.2.2)) ∧ (Lit.int .i64 y.1).wf = true ∧ (Lit.int .i64 y.2.1).wf = true ∧ (Lit.int .i64 y.2.2).wf = true) len (fun j hj => by
      obtain ⟨cs', hc, ht'⟩ := hi j (by omega)
      rw [hC] at hc
      obtain ⟨_, hcl, hat⟩ := World.cells?_some hc
      obtain ⟨p, q, r, rfl, wp, wq, wr⟩ := open_three he hone h0 h1 h2 (by simpa using hcl) ht'
      refine ⟨(p, q, r), ⟨?_, ?_, ?_⟩, wp, wq, wr⟩
      · have := hat 0 (by omega); rw [Go.Deep.add_add] at this; simpa using this
      · have := hat 1 (by omega); rw [← Go.Deep.add_add, this]; rfl
      · have := hat 2 (by omega); rw [← Go.Deep.add_add, this]; rfl)
    refine ⟨some a, len, cap, xs, rfl, hl, hm, hxl, fun y hy => ?_, fun _ => ⟨a, rfl, fun j y hj => (hxs j y hj).1⟩⟩
    obtain ⟨j, hj, rfl⟩ := List.getElem_of_mem hy
    exact (hxs j _ (List.getElem?_eq_getElem hj)).2
end
end Go.Proofs.YtipiaiolhhnnhaaH
