-- Written by a program of this session (wip/tools/pg.py) out of the translation.
import Derived.Test.YtipiaiolhhnnhaaPFnExactMakePuzzlex0
import Derived.Test.YtipiaiolhhnnhaaPFnExactMakePuzzlex3
namespace Go.Proofs.Ytipiaiolhhnnhaa.PFnExactMakePuzzle
open Go.RowKit Go.Proofs.YtipiaiolhhnnhaaW.PrintWords Go.Proofs.YtipiaiolhhnnhaaW.PrintLast Go.Proofs.YtipiaiolhhnnhaaW.PrintMore Go.Proofs.YtipiaiolhhnnhaaH
attribute [local go_sem] max2_int min2_int max_two min_two max_three min_three max_four min_four   -- for this text's walks alone
set_option linter.unusedVariables false
set_option linter.unusedSimpArgs false

/-! ### spec_SquaresAtEdges: function 91 (by hand) -/
/- x 59 -/
def edS (b : Bool) (x : Int) : Int := if b then wrap64 (x + 1) else x
def edOr (b : Bool) (x y : Int) : Prop := (b = true ∧ y = wrap64 (x + 1)) ∨ (b = false ∧ y = x)
theorem edOr_eq {b : Bool} {x y : Int} (h : edOr b x y) : y = edS b x := by
 rcases h with ⟨rfl, rfl⟩ | ⟨rfl, rfl⟩ <;> rfl
theorem blk_to {w : World} {g : Nat} {t : TypeId} {cs cs' : Array Value} (h : w.heap[g]? = some (.cells cs t (0, 0))) (e : cs = cs') : w.heap[g]? = some (.cells cs' t (0, 0)) := e ▸ h
theorem edS_lem {b0 b1 b2 b3 : Bool} {p0 p1 p2 p3 q0 q1 q2 q3 : Int} (h0 : edOr b0 p0 q0) (h1 : edOr b1 p1 q1) (h2 : edOr b2 p2 q2) (h3 : edOr b3 p3 q3) :
  (#[.int .i64 q0, .int .i64 q1, .int .i64 q2, .int .i64 q3] : Array Value) = #[.int .i64 (edS b0 p0), .int .i64 (edS b1 p1), .int .i64 (edS b2 p2), .int .i64 (edS b3 p3)] := by
 rw [edOr_eq h0, edOr_eq h1, edOr_eq h2, edOr_eq h3]
/-- The four counts of the first n squares. -/
def edCntS (w h : Int) (l : List S87) : Nat → Int × Int × Int × Int
 | 0 => (0, 0, 0, 0)
 | n + 1 => (edS ((rd_T87 l (n : Int)).f1 == 0) (edCntS w h l n).1, edS (wrap64 ((rd_T87 l (n : Int)).f0 + (rd_T87 l (n : Int)).f2) == w) (edCntS w h l n).2.1,
   edS (wrap64 ((rd_T87 l (n : Int)).f1 + (rd_T87 l (n : Int)).f2) == h) (edCntS w h l n).2.2.1, edS ((rd_T87 l (n : Int)).f0 == 0) (edCntS w h l n).2.2.2)
def edListS (x : Int × Int × Int × Int) : List Int := [x.1, x.2.1, x.2.2.1, x.2.2.2]
def spec_SquaresAtEdges.f (k : Nat) (a0_0 : Int) (a0_1 : Int) (l0_2 : List (S87)) : Option (List Int × Bool) :=
 (spec_cuGood.f k a0_0 a0_1 l0_2).bind fun t => if t = true then some (edListS (edCntS a0_0 a0_1 l0_2 l0_2.length), true) else some ([], false)
theorem spec_SquaresAtEdges.mono : ∀ a0 a1 a2 k, LeO (spec_SquaresAtEdges.f k a0 a1 a2) (spec_SquaresAtEdges.f (k + 1) a0 a1 a2) := by
 intro a0 a1 a2 k
 unfold spec_SquaresAtEdges.f
 exact LeO.bind (spec_cuGood.mono _ _ _ _) (fun _ => LeO.refl _)
set_option maxHeartbeats 32000000 in
set_option maxRecDepth 100000 in
theorem spec_SquaresAtEdges.calls (k : Nat) (a0_0 : Int) (a0_1 : Int) (A0_2 : Option Addr) (c0_2 : Nat) (l0_2 : List (S87)) (r1 : List Int) (r2 : Bool) (w : World) (hr0_2 : Kd.C k87 w A0_2 l0_2.length l0_2) (hc0_2 : l0_2.length ≤ c0_2) (h : spec_SquaresAtEdges.f k a0_0 a0_1 l0_2 = some (r1, r2)) :
  Calls Try.prog 91 #[.agg #[.int .i64 a0_0, .int .i64 a0_1, .slice A0_2 l0_2.length c0_2]] w fun e w' => ∃ v0_ : Value, e = .returned (.tuple #[v0_, .bool r2]) ∧ Kd.R (Kd.int .i64) 3 w' w.heap.size (fun _ => True) v0_ r1 ∧ Below w.heap.size w w' := by
 unfold spec_SquaresAtEdges.f at h
 obtain ⟨t, ht, h⟩ := Option.bind_eq_some_iff.mp h
 have hu1 := Try.underlying31
 have hu2 := Try.underlying87
 have hbig : l0_2.length ≤ 9223372036854775807 := hr0_2.2.1
 have hG := fun w1 hh => spec_cuGood.calls k a0_0 a0_1 A0_2 c0_2 l0_2 t w1 hh hc0_2 ht
 have HG := As_ hG
 have HR0 := As_ hr0_2
 have HB := As_ (Below.refl w.heap.size w)
 have hb1 : ∀ A : Obj, (w.alloc A).heap[w.heap.size]? = some A := fun A => heap_alloc_new w A
 have HB1 := As_ hb1
 clear hG ht hb1
 cases t with
 | false =>
  rw [if_neg (by decide)] at h
  simp only [Option.some.injEq, Prod.mk.injEq] at h
  obtain ⟨rfl, rfl⟩ := h
  clear hr0_2
  go_enter Try.func91, Try.ntmps91
  go_wp2_with (go_at_call 59; refine (HG.out _ (Kd.C_below HR0.out (below_alloc HB.out _))).mono ?_; rintro e w' ⟨rfl, hb⟩; have HB3 := As_ (below_step (below_alloc HB.out _) hb); clear hb)
  go_ret2
  exact ⟨_, rfl, Kd.R_nil _ _ _ _ _, HB3.out⟩
 | true =>
  rw [if_pos rfl] at h
  simp only [Option.some.injEq, Prod.mk.injEq] at h
  obtain ⟨rfl, rfl⟩ := h
  have hmk : ∀ W : World, (Instr.makeSlice 26 (.int .i64 4) (.int .i64 4)).run Try.prog W = .ok (.slice (some ⟨W.heap.size, 0, none⟩) 4 4) (W.alloc (.cells #[.int .i64 0, .int .i64 0, .int .i64 0, .int .i64 0] 3)) := fun W => by
   have h := print_make (P := Try.prog) 26 3 .i64 8 Try.underlying26 info3 (by decide) 4 (by decide) W
   rw [show ((4 : Nat) : Int) = 4 from rfl, show madeCells #[Value.int .i64 0] 4 = #[.int .i64 0, .int .i64 0, .int .i64 0, .int .i64 0] from by kernel_rfl] at h
   exact h
  obtain ⟨n, hn⟩ : ∃ n, n = l0_2.length := ⟨_, rfl⟩
  have HN := As_ hn
  have HR := As_ (show Kd.C k87 w A0_2 n l0_2 by rw [hn]; exact hr0_2)
  rw [← hn] at hbig HG HR0 ⊢
  clear hn hr0_2 hc0_2
  go_enter Try.func91, Try.ntmps91
  go_wp2_with (go_at_call 59; go_must (refine (HG.out _ (Kd.C_below HR0.out (below_alloc HB.out _))).mono ?_); rintro e w1 ⟨rfl, hb⟩; have bc := blk_b hb (HB1.out _); have HB3 := As_ (below_step (below_alloc HB.out _) hb); have hz2 : ∀ A : Obj, (w1.alloc A).cell? ⟨w.heap.size, 2, none⟩ = some (.slice A0_2 n c0_2) := fun A => (blk_cell (blk_alloc bc A) 2).trans rfl; have BC1 := As_ bc; clear hb bc)
  clear hz2
  go_loopg [14] n (fun gg s14 wr => ∃ (i : Int) (x : Int × Int × Int × Int), 0 ≤ i ∧ i ≤ n ∧ Aside0 (n - i.toNat ≤ gg) ∧ s14 = .int .i64 i ∧ Aside0 (x = edCntS a0_0 a0_1 l0_2 i.toNat) ∧ Aside0 (Below w.heap.size w wr) ∧ Aside0 (wr.heap[w.heap.size]? = some (.cells #[.int .i64 a0_0, .int .i64 a0_1, .slice A0_2 n c0_2] 31 (0, 0))) ∧ Aside0 (wr.heap[w1.heap.size]? = some (.cells #[.int .i64 x.1, .int .i64 x.2.1, .int .i64 x.2.2.1, .int .i64 x.2.2.2] 3 (0, 0))))
  case atStart => exact ⟨0, (0, 0, 0, 0), by omega, by omega, ⟨by omega⟩, rfl, ⟨rfl⟩, ⟨below_alloc HB3.out _⟩, ⟨blk_alloc BC1.out _⟩, ⟨heap_alloc_new w1 _⟩⟩
  case round =>
   obtain ⟨i, x, hi0, hin, hg, rfl, HX, BW, BC, BK⟩ := hrel
   have hwr : w1.heap.size < wr.heap.size := blk_lt BK.out
   have hwc : w.heap.size < w1.heap.size := blk_lt BC1.out
   by_cases hlt : i < n
   case neg =>
    have e : i = n := by omega
    subst e
    go_wp2
    go_ret2
    refine ⟨.slice (some ⟨w1.heap.size, 0, none⟩) 4 4, rfl, ?_, BW.out⟩
    have e := HX.out
    rw [Int.toNat_natCast] at e
    rw [← e]
    refine Kd.R_of_own ⟨?_, .inr ⟨w1.heap.size, 4, _, rfl, by omega, BK.out, by simp [edListS], by unfold maxLen; omega, rfl, ?_⟩⟩ (fun _ _ => trivial)
    · simp [edListS, encs]
    · simp [edListS, encs]
   obtain ⟨ad, ea, hs0, hs1, hs2⟩ := at_T87 HR.out i hi0 hlt
   cases ea
   replace hs0 := (BW.out.cell (World.block_lt_of_cell? w _ hs0)).trans hs0
   replace hs1 := (BW.out.cell (World.block_lt_of_cell? w _ hs1)).trans hs1
   replace hs2 := (BW.out.cell (World.block_lt_of_cell? w _ hs2)).trans hs2
   have hne : ¬ w1.heap.size = wr.heap.size := by omega
   have hne2 : ¬ w.heap.size = wr.heap.size := by omega
   have hne3 : ¬ w.heap.size = w1.heap.size := by omega
   have hne4 : ¬ w1.heap.size = w.heap.size := by omega
   have hne5 : ¬ wr.heap.size = w1.heap.size := by omega
   obtain ⟨s, hs⟩ : ∃ s, s = rd_T87 l0_2 i := ⟨_, rfl⟩
   rw [← hs] at hs0 hs1 hs2
   have HE := As_ (show edCntS a0_0 a0_1 l0_2 (i + 1).toNat = (edS (s.f1 == 0) x.1, edS (wrap64 (s.f0 + s.f2) == a0_0) x.2.1, edS (wrap64 (s.f1 + s.f2) == a0_1) x.2.2.1, edS (s.f0 == 0) x.2.2.2) by rw [show (i + 1).toNat = i.toNat + 1 by omega, edCntS, ← HX.out, show ((i.toNat : Nat) : Int) = i by omega, ← hs])
   clear hs
   have HD := As_ (⟨hwr, hwc, hne⟩ : w1.heap.size < wr.heap.size ∧ w.heap.size < w1.heap.size ∧ ¬ w1.heap.size = wr.heap.size)
   clear hwr hwc
   go_upto_region 7 with (fail)
   have BC1 := As_ (blk_alloc BC.out (.cells #[.int .i64 s.f0, .int .i64 s.f1, .int .i64 s.f2] 87))
   have BK1 := As_ (blk_alloc BK.out (.cells #[.int .i64 s.f0, .int .i64 s.f1, .int .i64 s.f2] 87))
   have BW1 := As_ (below_alloc BW.out (.cells #[.int .i64 s.f0, .int .i64 s.f1, .int .i64 s.f2] 87))
   have BS1 := As_ (heap_alloc_new wr (.cells #[.int .i64 s.f0, .int .i64 s.f1, .int .i64 s.f2] 87))
   clear hs0 hs1 hs2 BC BK BW
   generalize (wr.alloc (.cells #[.int .i64 s.f0, .int .i64 s.f1, .int .i64 s.f2] 87)) = W1 at BC1 BK1 BW1 BS1 ⊢
   have hc0 : W1.cell? ⟨w.heap.size, 0, none⟩ = some (.int .i64 a0_0) := (blk_cell BC1.out 0).trans rfl
   have hc1 : W1.cell? ⟨w.heap.size, 1, none⟩ = some (.int .i64 a0_1) := (blk_cell BC1.out 1).trans rfl
   have hk0 : W1.cell? ⟨w1.heap.size, 0, none⟩ = some (.int .i64 x.1) := (blk_cell BK1.out 0).trans rfl
   have hk1 : W1.cell? ⟨w1.heap.size, 1, none⟩ = some (.int .i64 x.2.1) := (blk_cell BK1.out 1).trans rfl
   have hk2 : W1.cell? ⟨w1.heap.size, 2, none⟩ = some (.int .i64 x.2.2.1) := (blk_cell BK1.out 2).trans rfl
   have hk3 : W1.cell? ⟨w1.heap.size, 3, none⟩ = some (.int .i64 x.2.2.2) := (blk_cell BK1.out 3).trans rfl
   have hf0 := blk_frozen BK1.out 0
   have hf1 := blk_frozen BK1.out 1
   have hf2 := blk_frozen BK1.out 2
   have hf3 := blk_frozen BK1.out 3
   have hs0 : W1.cell? ⟨wr.heap.size, 0, none⟩ = some (.int .i64 s.f0) := (blk_cell BS1.out 0).trans rfl
   have hs1 : W1.cell? ⟨wr.heap.size, 1, none⟩ = some (.int .i64 s.f1) := (blk_cell BS1.out 1).trans rfl
   have hs2 : W1.cell? ⟨wr.heap.size, 2, none⟩ = some (.int .i64 s.f2) := (blk_cell BS1.out 2).trans rfl
   go_wp2
   all_goals
    clear hc0 hc1 hk0 hk1 hk2 hk3 hf0 hf1 hf2 hf3 hs0 hs1 hs2
    go_roundg (n - (i + 1).toNat)
    case measure => have := hg.out; omega
    case rel =>
     refine ⟨i + 1, edCntS a0_0 a0_1 l0_2 (i + 1).toNat, by omega, by omega, ⟨by omega⟩, by go_num, ⟨rfl⟩, ⟨?_⟩, ⟨?_⟩, ⟨?_⟩⟩
     · repeat (first | (with_reducible exact BW1.out) | refine bs_ ?_ (Nat.le_of_lt HD.out.2.1))
     · repeat (first | (with_reducible exact BC1.out) | refine blk_far ?_ hne3 _)
     ·
      rw [HE.out]
      apply blk_to
      · repeat (first | (with_reducible exact BK1.out) | apply blk_set)
      ·
       simp only [sib_, sc0_, sc1_]
       exact edS_lem (by first | exact .inl ⟨by with_reducible assumption, rfl⟩ | exact .inr ⟨by with_reducible assumption, rfl⟩) (by first | exact .inl ⟨by with_reducible assumption, rfl⟩ | exact .inr ⟨by with_reducible assumption, rfl⟩) (by first | exact .inl ⟨by with_reducible assumption, rfl⟩ | exact .inr ⟨by with_reducible assumption, rfl⟩) (by first | exact .inl ⟨by with_reducible assumption, rfl⟩ | exact .inr ⟨by with_reducible assumption, rfl⟩)

end Go.Proofs.Ytipiaiolhhnnhaa.PFnExactMakePuzzle
