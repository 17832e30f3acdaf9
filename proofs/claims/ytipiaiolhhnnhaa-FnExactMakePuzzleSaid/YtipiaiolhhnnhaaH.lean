/- General lemmas of this session: predicates handed to the library, results, lists. -/
import Derived.Test.YtipiaiolhhnnhaaWWords
import Derived.Test.YtipiaiolhhnnhaaWLast
import Derived.Test.YtipiaiolhhnnhaaWMore
import Derived.Test.YtipiaiolhhnnhaaWAt
import Derived.Test.YtipiaiolhhnnhaaWRepsOne
import Derived.Test.YtipiaiolhhnnhaaWInv
import Derived.Shelf.Abstract
import Derived.WalkSpells
import Derived.Deep.RegionLaw
namespace Go.Proofs.YtipiaiolhhnnhaaH
open Go.RowKit Go.Proofs.YtipiaiolhhnnhaaW.PrintWords Go.Proofs.YtipiaiolhhnnhaaW.PrintLast Go.Proofs.YtipiaiolhhnnhaaW.PrintMore
set_option linter.unusedVariables false
set_option linter.unusedSimpArgs false

/-- What is asked of a predicate that is handed to the library: it tells p, and leaves what lay there. -/
def PB {α : Type} (P : Program) (g : Nat) (lb : Array Value) (enc : α → Value) (p : α → Bool) (w : World) : Prop :=
  ∀ (W : World) (x : α), Below w.heap.size w W → Calls P g (#[enc x] ++ lb) W fun e w' => e = .returned (.bool (p x)) ∧ Below w.heap.size w w'
/-- The first index of which p holds, or -1. -/
def idxOf {α : Type} (p : α → Bool) (l : List α) : Int := match l.findIdx? p with | some i => (i : Int) | none => -1
theorem ret_i64 {a b : Int} (h : a = b) : Ending.returned (.int .i64 a) = .returned (.int .i64 b) := by rw [h]
theorem ret_bool {a b : Bool} (h : a = b) : Ending.returned (.bool a) = .returned (.bool b) := by rw [h]
theorem idxOf_hit {α : Type} (p : α → Bool) (z : α) (l : List α) (i : Int) (h0 : 0 ≤ i) (h1 : i < l.length) (hp : p (l.getD i.toNat z) = true) (hn : ∀ j : Int, 0 ≤ j → j < i → p (l.getD j.toNat z) = false) : i = idxOf p l := by
  have hi : i.toNat < l.length := by omega
  have : l.findIdx? p = some i.toNat := by
    rw [List.findIdx?_eq_some_iff_getElem]
    refine ⟨hi, ?_, fun j hj => ?_⟩
    · simpa [List.getD_eq_getElem?_getD, hi] using hp
    · have := hn j (by omega) (by omega)
      have hj' : j < l.length := by omega
      simpa [List.getD_eq_getElem?_getD, hj'] using this
  rw [idxOf, this]
  show i = ((i.toNat : Nat) : Int)
  omega
theorem idxOf_miss {α : Type} (p : α → Bool) (z : α) (l : List α) (hn : ∀ j : Int, 0 ≤ j → j < (l.length : Int) → p (l.getD j.toNat z) = false) : -1 = idxOf p l := by
  have : l.findIdx? p = none := by
    rw [List.findIdx?_eq_none_iff]
    intro x hx
    obtain ⟨j, hj, rfl⟩ := List.getElem_of_mem hx
    have := hn j (by omega) (by omega)
    simpa [List.getD_eq_getElem?_getD, hj] using this
  rw [idxOf, this]
theorem idxOf_any {α : Type} (p : α → Bool) (l : List α) : decide (idxOf p l ≥ 0) = l.any p := by
  unfold idxOf
  cases h : l.findIdx? p with
  | none =>
    rw [List.findIdx?_eq_none_iff] at h
    have : l.any p = false := by simpa using h
    rw [this]; rfl
  | some i =>
    rw [List.findIdx?_eq_some_iff_getElem] at h
    obtain ⟨hi, hp, _⟩ := h
    have : l.any p = true := by simp; exact ⟨_, List.getElem_mem hi, hp⟩
    rw [this]
    simp
theorem idxOf_any' {α : Type} (p : α → Bool) (l : List α) : decide (0 ≤ idxOf p l) = l.any p := idxOf_any p l
theorem drawn_below {P : Program} {f : Nat} {args : Array Value} {w : World} {E : Ending} (h : Calls P f args w fun e w' => e = E ∧ Drawn0 w w') : Calls P f args w fun e w' => e = E ∧ Below w.heap.size w w' :=
  h.mono fun _ _ ⟨he, hd⟩ => ⟨he, hd.below⟩
/-- What lay there reads behind a call as it read ahead of it. -/
theorem bcell' {W w1 : World} (hb : Below W.heap.size W w1) : (∀ b o, b < W.heap.size → w1.cell? ⟨b, o, none⟩ = W.cell? ⟨b, o, none⟩) ∧ (∀ b o, b < W.heap.size → w1.frozen? ⟨b, o, none⟩ = W.frozen? ⟨b, o, none⟩) :=
  ⟨fun b o h => hb.cell (p := ⟨b, o, none⟩) h, fun b o h => hb.frozen (p := ⟨b, o, none⟩) h⟩
theorem blk_b {W w1 : World} {g : Nat} {o : Obj} (hb : Below W.heap.size W w1) (h : W.heap[g]? = some o) : w1.heap[g]? = some o := blk_below h hb
theorem ne_lt {W : World} {g gb : Nat} {o : Obj} (hg : gb = W.heap.size) (h : W.heap[g]? = some o) : g ≠ gb := by rw [hg]; exact Nat.ne_of_lt (blk_lt h)
theorem ne_gt {W : World} {g gb : Nat} {o : Obj} (hg : gb = W.heap.size) (h : W.heap[g]? = some o) : gb ≠ g := by rw [hg]; exact Nat.ne_of_gt (blk_lt h)
theorem below_setA {w W : World} {g j : Nat} {v : Value} (h : Below w.heap.size w W) (hp : Aside0 (w.heap.size ≤ g)) : Below w.heap.size w (W.setCell ⟨g, j, none⟩ v) := below_set h hp.out
theorem As_ {p : Prop} (h : p) : Aside0 p := ⟨h⟩
/-- What is written behind a row's length, in its own block, leaves the row. -/
theorem R_tail {α : Type} {d : Kd α} {e : Nat} {w : World} {base : Nat} {ok : Nat → Prop} {g n c : Nat} {xs : List α} (h : d.R e w base ok (.slice (some ⟨g, 0, none⟩) n c) xs) (vs : List Value) (o : Nat) (h1 : xs.length * d.sz ≤ o) (h2 : o + vs.length ≤ c * d.sz) :
    d.R e (w.setCells g o vs) base ok (.slice (some ⟨g, 0, none⟩) n c) xs := by
  obtain ⟨h0, inner, ho, hr⟩ := h
  have hg : (Value.slice (some ⟨g, 0, none⟩) n c).ownBlock = some g := rfl
  refine ⟨h0, inner, ?_, hr.imp_ (fun _ _ hp => d.M_move (fun k hk => setCells_far vs o k (fun e => hk.2 (by rw [hg, e]))) hp)⟩
  obtain ⟨k1, k2⟩ := ho
  refine ⟨k1, ?_⟩
  rcases k2 with ⟨k2, _⟩ | ⟨g', cap, cur, hv, hb, hh, hn, hm, hs, ht⟩
  · cases k2
  · injection hv with ha hn' hc
    injection ha with ha
    injection ha with hg'
    subst hg'; subst hc
    obtain ⟨cur', hh', hs', ht'⟩ : ∃ cur', (w.setCells g o vs).heap[g]? = some (.cells cur' e (0, 0)) ∧ cur'.size = cur.size ∧ ∀ q, q ≤ o → cur'.toList.take q = cur.toList.take q := by
      obtain ⟨cur', h3, h4, h5⟩ := setCells_row vs o w cur hh (by omega)
      refine ⟨cur', h3, h4, fun q hq => ?_⟩
      rw [h5, List.append_assoc, List.take_append_of_le_length (by simp; omega), List.take_take, Nat.min_eq_left hq]
    exact .inr ⟨g, c, cur', by rw [hn'], hb, hh', hn, hm, by omega, by rw [ht' _ (by omega)]; exact ht⟩
/-- A row's whole block. -/
theorem R_block {α : Type} {d : Kd α} {e : Nat} {w : World} {base : Nat} {ok : Nat → Prop} {g n c : Nat} {xs : List α} (h : d.R e w base ok (.slice (some ⟨g, 0, none⟩) n c) xs) :
    ∃ cur, w.heap[g]? = some (.cells cur e (0, 0)) ∧ cur.size = c * d.sz ∧ n = xs.length ∧ n ≤ c ∧ c ≤ maxLen ∧ base ≤ g := by
  obtain ⟨h0, inner, ho, hr⟩ := h
  obtain ⟨k1, k2⟩ := ho
  rcases k2 with ⟨k2, _⟩ | ⟨g', cap, cur, hv, hb, hh, hn, hm, hs, ht⟩
  · cases k2
  · injection hv with ha hn' hc
    injection ha with ha
    injection ha with hg'
    subst hg'; subst hc
    exact ⟨cur, hh, hs, hn', by omega, hm, hb⟩
theorem run_clear_one {P : Program} (w : World) (t e ty : TypeId) (z : Value) (zs : List Value) (ht : P.underlying t = some (.slice e)) (hv : ∀ w, (zeroValue e).run P w = .ok z w) (hz : z.cells = zs.toArray) (hz0 : 0 < zs.length) (h1 : ∀ v ∈ zs, v.oneCell' = true) (b o n c : Nat) (hn : n = 1)
    (hc : ∀ j, j < zs.length → (w.cell? ⟨b, o + j, none⟩).isSome = true) (hf : ∀ j, j < zs.length → w.frozen? ⟨b, o + j, none⟩ = false) :
    (Builtin.clear_ #[t] ty #[.slice (some ⟨b, o, none⟩) n c]).run P w = .ok (.tuple #[]) (w.setCells b o zs) := by
  subst hn
  have hzc : (Builtin.zeroCells z.cells 1).toList = zs := by
    rw [hz]
    apply List.ext_getElem
    · simp [Builtin.zeroCells]
    · intro i h1 h2
      simp [Builtin.zeroCells, Nat.mod_eq_of_lt h2, h2]
  have hst := run_storeCells_cells (P := P) b o zs 0 w (by simpa using hc) (by simpa using hf) h1
  simp only [Nat.add_zero] at hst
  simp [Builtin.clear_, run_underlying ht, hv, hzc, hst]
theorem sib_ {α : Type} {l : List α} {i : Nat} {a : α} : l.toArray.setIfInBounds i a = (l.set i a).toArray := List.setIfInBounds_toArray ..
theorem sc0_ {α : Type} {x b : α} {xs : List α} : (x :: xs).set 0 b = b :: xs := List.set_cons_zero
theorem sc1_ {α : Type} {x b : α} {xs : List α} {n : Nat} : (x :: xs).set (n + 1) b = x :: xs.set n b := List.set_cons_succ
/-- A call of a function value with what it holds, by its contract. -/
theorem goesv_ {P : Program} {ops : Array Oper} {Q : Exit → Act → World → Prop} {oi : Oper} {N : Option Tmp} {a : Act} {w : World} {K : Act → World → Prop} (x : Operand) (g : Nat) (lb : Array Value) {xs : Array Operand} {ts : Array TypeId} (eg : ∀ args w, (callFunc g args).run P w = .ok (.enter g args) w) (args : Array Value)
    (hw : Region.wanted oi (yielded ops a.tmps) = true) (hN : oi.dst = N) (hop : oi.op = .call { callee := .value x, args := xs, argTypes := ts }) (hx : a.eval x = .func (.func g) #[] lb) (hargs : xs.map a.eval ++ lb = args)
    (h : Calls P g args w fun e w' => ∃ v, e = .returned v ∧ K (a.put N v) w') : if Region.wanted oi (yielded ops a.tmps) = true then Oper.wp P oi a w K Q else K (a.put N undef) w := by
  refine call_ g args hw hN ?_ h
  have he := eg args w
  unfold execOp
  simp [hop, resolve, hx, Deferred.ofValue, invoke, hargs, he]
theorem bel_ (w0 : World) {W w3 : World} (_ : Below W.heap.size W w3) (h : Below w0.heap.size w0 W) : Below w0.heap.size w0 W := h
theorem gesz {w W : World} {g : Nat} (hg : g = W.heap.size) (h : Below w.heap.size w W) : w.heap.size ≤ g := hg ▸ h.size
section
variable {w : World} {g t : Nat} {a b c d : Value}
theorem c2_ (h : w.heap[g]? = some (.cells #[a, b] t (0, 0))) : w.cell? ⟨g, 0, none⟩ = some a ∧ w.cell? ⟨g, 1, none⟩ = some b := ⟨(blk_cell h 0).trans rfl, (blk_cell h 1).trans rfl⟩
theorem c3_ (h : w.heap[g]? = some (.cells #[a, b, c] t (0, 0))) : w.cell? ⟨g, 0, none⟩ = some a ∧ w.cell? ⟨g, 1, none⟩ = some b ∧ w.cell? ⟨g, 2, none⟩ = some c := ⟨(blk_cell h 0).trans rfl, (blk_cell h 1).trans rfl, (blk_cell h 2).trans rfl⟩
theorem c4_ (h : w.heap[g]? = some (.cells #[a, b, c, d] t (0, 0))) : w.cell? ⟨g, 0, none⟩ = some a ∧ w.cell? ⟨g, 1, none⟩ = some b ∧ w.cell? ⟨g, 2, none⟩ = some c ∧ w.cell? ⟨g, 3, none⟩ = some d := ⟨(blk_cell h 0).trans rfl, (blk_cell h 1).trans rfl, (blk_cell h 2).trans rfl, (blk_cell h 3).trans rfl⟩
end
section
variable {w : World} {g t : Nat} {cs : Array Value} (h : w.heap[g]? = some (.cells cs t (0, 0)))
include h
theorem z2_ : w.frozen? ⟨g, 0, none⟩ = false ∧ w.frozen? ⟨g, 1, none⟩ = false := ⟨blk_frozen h 0, blk_frozen h 1⟩
theorem z3_ : w.frozen? ⟨g, 0, none⟩ = false ∧ w.frozen? ⟨g, 1, none⟩ = false ∧ w.frozen? ⟨g, 2, none⟩ = false := ⟨blk_frozen h 0, blk_frozen h 1, blk_frozen h 2⟩
theorem z4_ : w.frozen? ⟨g, 0, none⟩ = false ∧ w.frozen? ⟨g, 1, none⟩ = false ∧ w.frozen? ⟨g, 2, none⟩ = false ∧ w.frozen? ⟨g, 3, none⟩ = false := ⟨blk_frozen h 0, blk_frozen h 1, blk_frozen h 2, blk_frozen h 3⟩
end
section
variable {w W : World} {B g : Nat} {o : Obj}
theorem ba_ (h : Below w.heap.size w W) (o : Obj) : Below w.heap.size w (W.alloc o) := below_alloc h o
theorem bn_ (h : Below B w W) (n : Nat) : Below B w (W.drewN n) := pw_below_drewN h n
theorem bd_ (h : Below B w W) : Below B w W.drew := below_drew1 h
theorem bs_ {j : Nat} {v : Value} (h : Below w.heap.size w W) (hg : w.heap.size ≤ g) : Below w.heap.size w (W.setCell ⟨g, j, none⟩ v) := below_set h hg
theorem ka_ (h : w.heap[g]? = some o) (o' : Obj) : (w.alloc o').heap[g]? = some o := blk_alloc h o'
theorem kd_ (h : w.heap[g]? = some o) : w.drew.heap[g]? = some o := h
theorem kn_ (h : w.heap[g]? = some o) (n : Nat) : (w.drewN n).heap[g]? = some o := h
end
theorem pu_ {P : Program} {md : Region.Mode} {ops : Array Oper} {Q : Exit → Act → World → Prop} {S : World → Prop} {ds : List Nat} {oi : Oper} {v : Value} {fuel : Nat} {l : Array Bool} {a : Act} {w : World} (i : Nat) (N : Option Tmp) (l' : Array Bool) (hi : ops[i]? = some oi) (hN : oi.dst = N) (hc : anyB md ops l l' i = true)
    (hQ : ∀ c a w, Q (.panic c) (a.put oi.dst v) w → Q (.panic c) a w) (hy : Yields P ops oi v a) {a' : Act} (ha : a.put N v = a') (h : wpAnyLast P md ops Q S ds fuel l' a' w) : wpAnyLast P md ops Q S ds (fuel + 1) l a w := pure_ l' hi hN hc hQ hy ha h
@[reducible] def t_ : Bool := true
@[reducible] def f_ : Bool := false
end Go.Proofs.YtipiaiolhhnnhaaH
