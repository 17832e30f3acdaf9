/- General lemmas of this session: predicates handed to the library, results, lists. -/
import Derived.Test.YtmmdnenmkaimoaaWWords
import Derived.Test.YtmmdnenmkaimoaaWLast
import Derived.Test.YtmmdnenmkaimoaaWMore
import Derived.Test.YtmmdnenmkaimoaaWAt
import Derived.Test.YtmmdnenmkaimoaaWRepsOne
import Derived.Test.YtmmdnenmkaimoaaWInv
import Derived.Shelf.Abstract
import Derived.WalkSpells
namespace Go.Proofs.YtmmdnenmkaimoaaH
open Go.RowKit Go.Proofs.YtmmdnenmkaimoaaW.PrintWords Go.Proofs.YtmmdnenmkaimoaaW.PrintLast Go.Proofs.YtmmdnenmkaimoaaW.PrintMore
set_option linter.unusedVariables false
set_option linter.unusedSimpArgs false

/-- What is asked of a predicate that is handed to the library: it tells p, and leaves what lay there. -/
def PB {α : Type} (P : Program) (g : Nat) (lb : Array Value) (enc : α → Value) (p : α → Bool) (w : World) : Prop :=
  ∀ (W : World) (x : α), Below w.heap.size w W → Calls P g (#[enc x] ++ lb) W fun e w' => e = .returned (.bool (p x)) ∧ Below w.heap.size w w'
/-- The first index of which p holds, or -1. -/
def idxOf {α : Type} (p : α → Bool) (l : List α) : Int := match l.findIdx? p with | some i => (i : Int) | none => -1
theorem ret_i64 {a b : Int} (h : a = b) : Ending.returned (.int .i64 a) = .returned (.int .i64 b) := by rw [h]
theorem ret_bool {a b : Bool} (h : a = b) : Ending.returned (.bool a) = .returned (.bool b) := by rw [h]
theorem idxOf_hit {α : Type} (p : α → Bool) (z : α) (l : List α) (i : Int) (h0 : 0 ≤ i) (h1 : i < l.length) (hp : p (l.getD i.toNat z) = true) (hn : ∀ j : Int, 0 ≤ j → j < i → p (l.getD j.toNat z) = false) : i = idxOf p l := by
  have hi : i.toNat < l.length := by omega
  have : l.findIdx? p = some i.toNat := by
    rw [List.findIdx?_eq_some_iff_getElem]
    refine ⟨hi, ?_, fun j hj => ?_⟩
    · simpa [List.getD_eq_getElem?_getD, hi] using hp
    · have := hn j (by omega) (by omega)
      have hj' : j < l.length := by omega
      simpa [List.getD_eq_getElem?_getD, hj'] using this
  rw [idxOf, this]
  show i = ((i.toNat : Nat) : Int)
  omega
theorem idxOf_miss {α : Type} (p : α → Bool) (z : α) (l : List α) (hn : ∀ j : Int, 0 ≤ j → j < (l.length : Int) → p (l.getD j.toNat z) = false) : -1 = idxOf p l := by
  have : l.findIdx? p = none := by
    rw [List.findIdx?_eq_none_iff]
    intro x hx
    obtain ⟨j, hj, rfl⟩ := List.getElem_of_mem hx
    have := hn j (by omega) (by omega)
    simpa [List.getD_eq_getElem?_getD, hj] using this
  rw [idxOf, this]
theorem idxOf_any {α : Type} (p : α → Bool) (l : List α) : decide (idxOf p l ≥ 0) = l.any p := by
  unfold idxOf
  cases h : l.findIdx? p with
  | none =>
    rw [List.findIdx?_eq_none_iff] at h
    have : l.any p = false := by simpa using h
    rw [this]; rfl
  | some i =>
    rw [List.findIdx?_eq_some_iff_getElem] at h
    obtain ⟨hi, hp, _⟩ := h
    have : l.any p = true := by simp; exact ⟨_, List.getElem_mem hi, hp⟩
    rw [this]
    simp
theorem idxOf_any' {α : Type} (p : α → Bool) (l : List α) : decide (0 ≤ idxOf p l) = l.any p := idxOf_any p l
theorem drawn_below {P : Program} {f : Nat} {args : Array Value} {w : World} {E : Ending} (h : Calls P f args w fun e w' => e = E ∧ Drawn0 w w') : Calls P f args w fun e w' => e = E ∧ Below w.heap.size w w' :=
  h.mono fun _ _ ⟨he, hd⟩ => ⟨he, hd.below⟩
/-- What lay there reads behind a call as it read ahead of it. -/
theorem bcell' {W w1 : World} (hb : Below W.heap.size W w1) : (∀ b o, b < W.heap.size → w1.cell? ⟨b, o, none⟩ = W.cell? ⟨b, o, none⟩) ∧ (∀ b o, b < W.heap.size → w1.frozen? ⟨b, o, none⟩ = W.frozen? ⟨b, o, none⟩) :=
  ⟨fun b o h => hb.cell (p := ⟨b, o, none⟩) h, fun b o h => hb.frozen (p := ⟨b, o, none⟩) h⟩
theorem blk_b {W w1 : World} {g : Nat} {o : Obj} (hb : Below W.heap.size W w1) (h : W.heap[g]? = some o) : w1.heap[g]? = some o := blk_below h hb
theorem ne_lt {W : World} {g gb : Nat} {o : Obj} (hg : gb = W.heap.size) (h : W.heap[g]? = some o) : g ≠ gb := by rw [hg]; exact Nat.ne_of_lt (blk_lt h)
theorem ne_gt {W : World} {g gb : Nat} {o : Obj} (hg : gb = W.heap.size) (h : W.heap[g]? = some o) : gb ≠ g := by rw [hg]; exact Nat.ne_of_gt (blk_lt h)
theorem below_setA {w W : World} {g j : Nat} {v : Value} (h : Below w.heap.size w W) (hp : Aside0 (w.heap.size ≤ g)) : Below w.heap.size w (W.setCell ⟨g, j, none⟩ v) := below_set h hp.out
theorem As_ {p : Prop} (h : p) : Aside0 p := ⟨h⟩
end Go.Proofs.YtmmdnenmkaimoaaH
