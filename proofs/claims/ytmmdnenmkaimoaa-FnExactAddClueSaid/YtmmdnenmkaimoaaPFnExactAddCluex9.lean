-- Written by a program of this session (wip/tools/pg.py) out of the translation.
import Derived.Test.YtmmdnenmkaimoaaPFnExactAddCluex0
import Derived.Test.YtmmdnenmkaimoaaPFnExactAddCluex1
import Derived.Test.YtmmdnenmkaimoaaPFnExactAddCluex2
import Derived.Test.YtmmdnenmkaimoaaPFnExactAddCluex7
import Derived.Test.YtmmdnenmkaimoaaPFnExactAddCluex8
namespace Go.Proofs.Ytmmdnenmkaimoaa.PFnExactAddClue
open Go.RowKit Go.Proofs.YtmmdnenmkaimoaaW.PrintWords Go.Proofs.YtmmdnenmkaimoaaW.PrintLast Go.Proofs.YtmmdnenmkaimoaaW.PrintMore Go.Proofs.YtmmdnenmkaimoaaH
attribute [local go_sem] max2_int min2_int max_two min_two max_three min_three max_four min_four   -- for this text's walks alone
set_option linter.unusedVariables false
set_option linter.unusedSimpArgs false

/-! ### laws_FnExactAddClue: function 3 -/
mutual
def laws_FnExactAddClue.j0 : Nat → Bool → Bool → Bool → Int → Int → List (S26) → Int → Int → Int → Int → Int → List (S34) → Int → Int → List (S34) → Int → Int → List (S34) → Option (Bool)
  | 0, _, _, _, _, _, _, _, _, _, _, _, _, _, _, _, _, _, _ => none
  | k + 1, x7, x10, x46, x209000, x209001, x209002, x210000, x210001, x210002, x226000, x226001, x226002, x232000, x232001, x232002, x242000, x242001, x242002 => if x46 = true then (none) else ((laws_toPuzzle.f k x209000 x209001 x209002).bind fun bt243 => ((laws_eqPuzzle.f k x232000 x232001 x232002 bt243.1 bt243.2.1 bt243.2.2).bind fun t248 => (if t248 = true then ((laws_markPuzzle.f k x232000 x232001 x232002 1).bind fun bt249 => (if bt249.1 < 0 then (laws_FnExactAddClue.j1 k x7 true x209000 x209001 x209002 x210000 x210001 x210002 x226000 x226001 x226002 x242000 x242001 x242002) else ((laws_eqPuzzle.f k x242000 x242001 x242002 x226000 x226001 x226002).bind fun t251 => (if t251 = true then (laws_FnExactAddClue.j1 k x7 (x10 != x7) x209000 x209001 x209002 x210000 x210001 x210002 x226000 x226001 x226002 x242000 x242001 x242002) else (laws_FnExactAddClue.j1 k x7 true x209000 x209001 x209002 x210000 x210001 x210002 x226000 x226001 x226002 x242000 x242001 x242002))))) else (none))))
def laws_FnExactAddClue.j1 : Nat → Bool → Bool → Int → Int → List (S26) → Int → Int → Int → Int → Int → List (S34) → Int → Int → List (S34) → Option (Bool)
  | 0, _, _, _, _, _, _, _, _, _, _, _, _, _, _ => none
  | k + 1, x7, x67, x209000, x209001, x209002, x210000, x210001, x210002, x226000, x226001, x226002, x242000, x242001, x242002 => if x67 = true then (none) else ((laws_markPuzzle.f k x242000 x242001 x242002 1).bind fun bt252 => ((laws_heldPuzzle.f k x242000 x242001 bt252.2 1).bind fun t254 => (if t254 < 0 then (none) else (if t254 = bt252.1 then ((laws_toPuzzle.f k x209000 x209001 x209002).bind fun bt255 => ((laws_toClue.f x210000 x210001 x210002).bind fun bt260 => ((impl_AddClue.f bt255.1 bt255.2.1 bt255.2.2 bt260.1 bt260.2.1 bt260.2.2).bind fun bt263 => ((laws_eqPuzzle.f k bt263.1 bt263.2.1 bt263.2.2.1 x226000 x226001 x226002).bind fun t270 => (if t270 = true then (laws_FnExactAddClue.j2 k bt252.1 (bt263.2.2.2 != x7) x242000 x242001 bt252.2) else (laws_FnExactAddClue.j2 k bt252.1 true x242000 x242001 bt252.2)))))) else (none)))))
def laws_FnExactAddClue.j2 : Nat → Int → Bool → Int → Int → List (S34) → Option (Bool)
  | 0, _, _, _, _, _ => none
  | k + 1, x12, x95, x242000, x242001, x242002 => if x95 = true then (none) else ((laws_heldPuzzle.f k x242000 x242001 x242002 1).bind fun t271 => (if t271 < 0 then (none) else (if t271 = x12 then (some true) else (none))))
end
def laws_FnExactAddClue.f (k : Nat) (a0_0 : Int) (a0_1 : Int) (l0_2 : List (S26)) (a1_0 : Int) (a1_1 : Int) (a1_2 : Int) : Option (Bool) := (laws_szPuzzle.f a0_0 a0_1 l0_2 1048576).bind fun t210 => (if t210 < 0 then (some true) else ((laws_toPuzzle.f k a0_0 a0_1 l0_2).bind fun bt211 => ((laws_toClue.f a1_0 a1_1 a1_2).bind fun bt216 => ((spec_AddClue.f k bt211.1 bt211.2.1 bt211.2.2 bt216.1 bt216.2.1 bt216.2.2).bind fun bt219 => ((laws_toPuzzle.f k a0_0 a0_1 l0_2).bind fun bt226 => ((laws_toClue.f a1_0 a1_1 a1_2).bind fun bt232 => ((impl_AddClue.f bt226.1 bt226.2.1 bt226.2.2 bt232.1 bt232.2.1 bt232.2.2).bind fun bt235 => ((laws_eqPuzzle.f k bt235.1 bt235.2.1 bt235.2.2.1 bt219.1 bt219.2.1 bt219.2.2.1).bind fun t242 => (if t242 = true then (laws_FnExactAddClue.j0 k bt219.2.2.2 bt235.2.2.2 (bt235.2.2.2 != bt219.2.2.2) a0_0 a0_1 l0_2 a1_0 a1_1 a1_2 bt219.1 bt219.2.1 bt219.2.2.1 bt226.1 bt226.2.1 bt226.2.2 bt235.1 bt235.2.1 bt235.2.2.1) else (laws_FnExactAddClue.j0 k bt219.2.2.2 bt235.2.2.2 true a0_0 a0_1 l0_2 a1_0 a1_1 a1_2 bt219.1 bt219.2.1 bt219.2.2.1 bt226.1 bt226.2.1 bt226.2.2 bt235.1 bt235.2.1 bt235.2.2.1))))))))))
theorem laws_FnExactAddClue.mono_l : ∀ k, (∀ y0 y1 y2 y3 y4 y5 y6 y7 y8 y9 y10 y11 y12 y13 y14 y15 y16 y17, LeO (laws_FnExactAddClue.j0 k y0 y1 y2 y3 y4 y5 y6 y7 y8 y9 y10 y11 y12 y13 y14 y15 y16 y17) (laws_FnExactAddClue.j0 (k + 1) y0 y1 y2 y3 y4 y5 y6 y7 y8 y9 y10 y11 y12 y13 y14 y15 y16 y17)) ∧ (∀ y0 y1 y2 y3 y4 y5 y6 y7 y8 y9 y10 y11 y12 y13, LeO (laws_FnExactAddClue.j1 k y0 y1 y2 y3 y4 y5 y6 y7 y8 y9 y10 y11 y12 y13) (laws_FnExactAddClue.j1 (k + 1) y0 y1 y2 y3 y4 y5 y6 y7 y8 y9 y10 y11 y12 y13)) ∧ (∀ y0 y1 y2 y3 y4, LeO (laws_FnExactAddClue.j2 k y0 y1 y2 y3 y4) (laws_FnExactAddClue.j2 (k + 1) y0 y1 y2 y3 y4))
  | 0 => ⟨fun _ _ _ _ _ _ _ _ _ _ _ _ _ _ _ _ _ _ r h => by simp [laws_FnExactAddClue.j0] at h, fun _ _ _ _ _ _ _ _ _ _ _ _ _ _ r h => by simp [laws_FnExactAddClue.j1] at h, fun _ _ _ _ _ r h => by simp [laws_FnExactAddClue.j2] at h⟩
  | k + 1 => by
    obtain ⟨ih0, ih1, ih2⟩ := laws_FnExactAddClue.mono_l k
    refine ⟨?_, ?_, ?_⟩
    · intro y0 y1 y2 y3 y4 y5 y6 y7 y8 y9 y10 y11 y12 y13 y14 y15 y16 y17
      unfold laws_FnExactAddClue.j0
      repeat' first
      | (with_reducible exact ih0 _ _ _ _ _ _ _ _ _ _ _ _ _ _ _ _ _ _)
      | (with_reducible exact ih1 _ _ _ _ _ _ _ _ _ _ _ _ _ _)
      | (with_reducible exact ih2 _ _ _ _ _)
      | (with_reducible exact laws_eqPuzzle.mono _ _ _ _ _ _ _)
      | (with_reducible exact laws_heldPuzzle.mono _ _ _ _ _)
      | (with_reducible exact laws_markPuzzle.mono _ _ _ _ _)
      | (with_reducible exact laws_toPuzzle.mono _ _ _ _)
      | (with_reducible exact spec_AddClue.mono _ _ _ _ _ _ _)
      | (with_reducible exact LeO.refl _)
      | (with_reducible exact LeO.none _)
      | (with_reducible refine LeO.ite ?_ ?_)
      | (with_reducible refine LeO.bind ?_ (fun _ => ?_))
      | exact ih0 _ _ _ _ _ _ _ _ _ _ _ _ _ _ _ _ _ _
      | exact ih1 _ _ _ _ _ _ _ _ _ _ _ _ _ _
      | exact ih2 _ _ _ _ _
      | exact laws_eqPuzzle.mono _ _ _ _ _ _ _
      | exact laws_heldPuzzle.mono _ _ _ _ _
      | exact laws_markPuzzle.mono _ _ _ _ _
      | exact laws_toPuzzle.mono _ _ _ _
      | exact spec_AddClue.mono _ _ _ _ _ _ _
      | exact LeO.none _
      | refine LeO.ite ?_ ?_
      | refine LeO.bind ?_ (fun _ => ?_)
    · intro y0 y1 y2 y3 y4 y5 y6 y7 y8 y9 y10 y11 y12 y13
      unfold laws_FnExactAddClue.j1
      repeat' first
      | (with_reducible exact ih0 _ _ _ _ _ _ _ _ _ _ _ _ _ _ _ _ _ _)
      | (with_reducible exact ih1 _ _ _ _ _ _ _ _ _ _ _ _ _ _)
      | (with_reducible exact ih2 _ _ _ _ _)
      | (with_reducible exact laws_eqPuzzle.mono _ _ _ _ _ _ _)
      | (with_reducible exact laws_heldPuzzle.mono _ _ _ _ _)
      | (with_reducible exact laws_markPuzzle.mono _ _ _ _ _)
      | (with_reducible exact laws_toPuzzle.mono _ _ _ _)
      | (with_reducible exact spec_AddClue.mono _ _ _ _ _ _ _)
      | (with_reducible exact LeO.refl _)
      | (with_reducible exact LeO.none _)
      | (with_reducible refine LeO.ite ?_ ?_)
      | (with_reducible refine LeO.bind ?_ (fun _ => ?_))
      | exact ih0 _ _ _ _ _ _ _ _ _ _ _ _ _ _ _ _ _ _
      | exact ih1 _ _ _ _ _ _ _ _ _ _ _ _ _ _
      | exact ih2 _ _ _ _ _
      | exact laws_eqPuzzle.mono _ _ _ _ _ _ _
      | exact laws_heldPuzzle.mono _ _ _ _ _
      | exact laws_markPuzzle.mono _ _ _ _ _
      | exact laws_toPuzzle.mono _ _ _ _
      | exact spec_AddClue.mono _ _ _ _ _ _ _
      | exact LeO.none _
      | refine LeO.ite ?_ ?_
      | refine LeO.bind ?_ (fun _ => ?_)
    · intro y0 y1 y2 y3 y4
      unfold laws_FnExactAddClue.j2
      repeat' first
      | (with_reducible exact ih0 _ _ _ _ _ _ _ _ _ _ _ _ _ _ _ _ _ _)
      | (with_reducible exact ih1 _ _ _ _ _ _ _ _ _ _ _ _ _ _)
      | (with_reducible exact ih2 _ _ _ _ _)
      | (with_reducible exact laws_eqPuzzle.mono _ _ _ _ _ _ _)
      | (with_reducible exact laws_heldPuzzle.mono _ _ _ _ _)
      | (with_reducible exact laws_markPuzzle.mono _ _ _ _ _)
      | (with_reducible exact laws_toPuzzle.mono _ _ _ _)
      | (with_reducible exact spec_AddClue.mono _ _ _ _ _ _ _)
      | (with_reducible exact LeO.refl _)
      | (with_reducible exact LeO.none _)
      | (with_reducible refine LeO.ite ?_ ?_)
      | (with_reducible refine LeO.bind ?_ (fun _ => ?_))
      | exact ih0 _ _ _ _ _ _ _ _ _ _ _ _ _ _ _ _ _ _
      | exact ih1 _ _ _ _ _ _ _ _ _ _ _ _ _ _
      | exact ih2 _ _ _ _ _
      | exact laws_eqPuzzle.mono _ _ _ _ _ _ _
      | exact laws_heldPuzzle.mono _ _ _ _ _
      | exact laws_markPuzzle.mono _ _ _ _ _
      | exact laws_toPuzzle.mono _ _ _ _
      | exact spec_AddClue.mono _ _ _ _ _ _ _
      | exact LeO.none _
      | refine LeO.ite ?_ ?_
      | refine LeO.bind ?_ (fun _ => ?_)
theorem laws_FnExactAddClue.mono : ∀ a0 a1 a2 a3 a4 a5 k, LeO (laws_FnExactAddClue.f k a0 a1 a2 a3 a4 a5) (laws_FnExactAddClue.f (k + 1) a0 a1 a2 a3 a4 a5) := by
  intro a0 a1 a2 a3 a4 a5 k
  obtain ⟨ih0, ih1, ih2⟩ := laws_FnExactAddClue.mono_l k
  unfold laws_FnExactAddClue.f
  repeat' first
      | (with_reducible exact ih0 _ _ _ _ _ _ _ _ _ _ _ _ _ _ _ _ _ _)
      | (with_reducible exact ih1 _ _ _ _ _ _ _ _ _ _ _ _ _ _)
      | (with_reducible exact ih2 _ _ _ _ _)
      | (with_reducible exact laws_eqPuzzle.mono _ _ _ _ _ _ _)
      | (with_reducible exact laws_heldPuzzle.mono _ _ _ _ _)
      | (with_reducible exact laws_markPuzzle.mono _ _ _ _ _)
      | (with_reducible exact laws_toPuzzle.mono _ _ _ _)
      | (with_reducible exact spec_AddClue.mono _ _ _ _ _ _ _)
      | (with_reducible exact LeO.refl _)
      | (with_reducible exact LeO.none _)
      | (with_reducible refine LeO.ite ?_ ?_)
      | (with_reducible refine LeO.bind ?_ (fun _ => ?_))
      | exact ih0 _ _ _ _ _ _ _ _ _ _ _ _ _ _ _ _ _ _
      | exact ih1 _ _ _ _ _ _ _ _ _ _ _ _ _ _
      | exact ih2 _ _ _ _ _
      | exact laws_eqPuzzle.mono _ _ _ _ _ _ _
      | exact laws_heldPuzzle.mono _ _ _ _ _
      | exact laws_markPuzzle.mono _ _ _ _ _
      | exact laws_toPuzzle.mono _ _ _ _
      | exact spec_AddClue.mono _ _ _ _ _ _ _
      | exact LeO.none _
      | refine LeO.ite ?_ ?_
      | refine LeO.bind ?_ (fun _ => ?_)
def laws_FnExactAddClue.T5 : Bool × List (List Nat × List Nat) := (true, [([], []), ([0], [0]), ([], []), ([2, 1], [2]), ([1, 3, 3], [1, 3]), ([4], [4]), ([5], [5]), ([5], [5]), ([], []), ([8, 6, 4, 0, 1, 2, 3, 4, 5, 6, 8], [6, 8]), ([7, 9, 0, 1, 2, 3, 4, 5, 6, 7, 8, 9], [7])])
def laws_FnExactAddClue.B5 : List Nat := [0, 1, 0, 7, 15, 31, 63, 63, 0, 383, 1023]
theorem laws_FnExactAddClue.tab5 : rtab .any (opsOf Try.f3 5) = laws_FnExactAddClue.T5 := by kernel_rfl
theorem laws_FnExactAddClue.bits5 : waitsOk laws_FnExactAddClue.T5.2 laws_FnExactAddClue.B5 = true := by kernel_rfl
def laws_FnExactAddClue.T7 : Bool × List (List Nat × List Nat) := (true, [([], []), ([], []), ([1], [1]), ([0, 2, 2], [0, 2]), ([3], [3]), ([4], [4]), ([4], [4]), ([], []), ([7, 5, 3, 0, 1, 2, 3, 4, 5, 7], [5, 7]), ([6, 8, 0, 1, 2, 3, 4, 5, 6, 7, 8], [6])])
def laws_FnExactAddClue.B7 : List Nat := [0, 0, 2, 7, 15, 31, 31, 0, 191, 511]
theorem laws_FnExactAddClue.tab7 : rtab .any (opsOf Try.f3 7) = laws_FnExactAddClue.T7 := by kernel_rfl
theorem laws_FnExactAddClue.bits7 : waitsOk laws_FnExactAddClue.T7.2 laws_FnExactAddClue.B7 = true := by kernel_rfl
def laws_FnExactAddClue.T24 : Bool × List (List Nat × List Nat) := (true, [([], []), ([0], [0]), ([], []), ([2, 1], [2]), ([1, 3, 3], [1, 3]), ([4], [4]), ([5], [5]), ([5], [5]), ([], []), ([8, 6, 4, 0, 1, 2, 3, 4, 5, 6, 8], [6, 8]), ([7, 9, 0, 1, 2, 3, 4, 5, 6, 7, 8, 9], [7])])
def laws_FnExactAddClue.B24 : List Nat := [0, 1, 0, 7, 15, 31, 63, 63, 0, 383, 1023]
theorem laws_FnExactAddClue.tab24 : rtab .any (opsOf Try.f3 24) = laws_FnExactAddClue.T24 := by kernel_rfl
theorem laws_FnExactAddClue.bits24 : waitsOk laws_FnExactAddClue.T24.2 laws_FnExactAddClue.B24 = true := by kernel_rfl
set_option maxHeartbeats 8000000 in
set_option maxRecDepth 100000 in
theorem laws_FnExactAddClue.calls (k : Nat) (a0_0 : Int) (a0_1 : Int) (A0_2 : Option Addr) (c0_2 : Nat) (l0_2 : List (S26)) (a1_0 : Int) (a1_1 : Int) (a1_2 : Int) (r : Bool) (w : World) (hr0_2 : Kd.C k26 w A0_2 l0_2.length l0_2) (hc0_2 : l0_2.length ≤ c0_2) (h : laws_FnExactAddClue.f k a0_0 a0_1 l0_2 a1_0 a1_1 a1_2 = some r) :
    Calls Try.prog 3 #[.agg #[.int .i64 a0_0, .int .i64 a0_1, .slice A0_2 l0_2.length c0_2], .agg #[.int .i64 a1_0, .int .i64 a1_1, .int .i64 a1_2]] w fun e w' => e = .returned (.bool r) ∧ Below w.heap.size w w' := by
  have hu24 := Try.underlying24
  have hu26 := Try.underlying26
  have hu30 := Try.underlying30
  have HR0_2 := As_ hr0_2
  have HC0_2 := As_ hc0_2
  clear hr0_2 hc0_2
  have HB := As_ (Below.refl w.heap.size w)
  have H : ((laws_szPuzzle.f a0_0 a0_1 l0_2 1048576).bind fun t210 => (if t210 < 0 then (some true) else ((laws_toPuzzle.f k a0_0 a0_1 l0_2).bind fun bt211 => ((laws_toClue.f a1_0 a1_1 a1_2).bind fun bt216 => ((spec_AddClue.f k bt211.1 bt211.2.1 bt211.2.2 bt216.1 bt216.2.1 bt216.2.2).bind fun bt219 => ((laws_toPuzzle.f k a0_0 a0_1 l0_2).bind fun bt226 => ((laws_toClue.f a1_0 a1_1 a1_2).bind fun bt232 => ((impl_AddClue.f bt226.1 bt226.2.1 bt226.2.2 bt232.1 bt232.2.1 bt232.2.2).bind fun bt235 => ((laws_eqPuzzle.f k bt235.1 bt235.2.1 bt235.2.2.1 bt219.1 bt219.2.1 bt219.2.2.1).bind fun t242 => (if t242 = true then (laws_FnExactAddClue.j0 k bt219.2.2.2 bt235.2.2.2 (bt235.2.2.2 != bt219.2.2.2) a0_0 a0_1 l0_2 a1_0 a1_1 a1_2 bt219.1 bt219.2.1 bt219.2.2.1 bt226.1 bt226.2.1 bt226.2.2 bt235.1 bt235.2.1 bt235.2.2.1) else (laws_FnExactAddClue.j0 k bt219.2.2.2 bt235.2.2.2 true a0_0 a0_1 l0_2 a1_0 a1_1 a1_2 bt219.1 bt219.2.1 bt219.2.2.1 bt226.1 bt226.2.1 bt226.2.2 bt235.1 bt235.2.1 bt235.2.2.1))))))))))) = some r := h
  clear h
  replace H := Option.bind_eq_some_iff.mp H
  obtain ⟨t210, A30, H⟩ := H
  try dsimp only at H
  have A3 := As_ A30
  clear A30
  by_cases c4 : t210 < 0
  · rw [if_pos c4] at H
    have c4b0 : decide (t210 < 0) = true := decide_eq_true c4
    clear c4
    obtain rfl := Option.some.inj H
    go_enter Try.func3, Try.ntmps3
    go_wp2_with (first | ((with_reducible refine gate_dst (N := 2) rfl ?_); refine box_event ?hg (N := 2) ?hd (cs := #[.int .i64 a0_0, .int .i64 a0_1, .slice A0_2 l0_2.length c0_2]) (t := 24) ?hr ?_; (case hd => rfl); (case hg => rfl); (case hr => first | (go_simp; done) | (go_simp; rfl)); intro gb208 hg w5 hbox hb; have BK208 := As_ (hbox); have GW208 := As_ ((by rw [hg]; exact (below_size (by repeat (first | (with_reducible first | exact HB.out | apply below_alloc | apply pw_below_drewN | apply below_drew1) | exact HB.out))) : w.heap.size ≤ gb208)); have GE208 := As_ ((by rw [hg]; exact (below_size (by repeat (first | (with_reducible first | exact HB.out | apply below_alloc | apply pw_below_drewN | apply below_drew1) | exact HB.out))) : w.heap.size ≤ gb208)); replace HB := As_ (below_step (by repeat (first | (with_reducible first | exact HB.out | apply below_alloc | apply pw_below_drewN | apply below_drew1) | exact HB.out)) hb); clear hb hbox hg) | ((with_reducible refine gate_dst (N := 3) rfl ?_); refine box_event ?hg (N := 3) ?hd (cs := #[.int .i64 a1_0, .int .i64 a1_1, .int .i64 a1_2]) (t := 26) ?hr ?_; (case hd => rfl); (case hg => rfl); (case hr => first | (go_simp; done) | (go_simp; rfl)); intro gb209 hg w6 hbox hb; have BK209 := As_ (hbox); have GW209 := As_ ((by rw [hg]; exact (below_size (by repeat (first | (with_reducible first | exact HB.out | apply below_alloc | apply pw_below_drewN | apply below_drew1 | refine below_set ?_ GE208.out) | exact HB.out))) : w.heap.size ≤ gb209)); have GE209 := As_ ((by rw [hg]; exact (below_size (by repeat (first | (with_reducible first | exact HB.out | apply below_alloc | apply pw_below_drewN | apply below_drew1 | refine below_set ?_ GE208.out) | exact HB.out))) : w.heap.size ≤ gb209)); have NB208_209 := As_ (ne_lt hg BK208.out); have NB209_208 := As_ (ne_gt hg BK208.out); replace BK208 := As_ (blk_b hb BK208.out); replace HB := As_ (below_step (by repeat (first | (with_reducible first | exact HB.out | apply below_alloc | apply pw_below_drewN | apply below_drew1 | refine below_set ?_ GE208.out) | exact HB.out)) hb); clear hb hbox hg; have hnb7 := NB208_209.out; have hnc7 := NB209_208.out; have hcz8_0 : w6.cell? ⟨gb208, 0, none⟩ = some (.int .i64 a0_0) := (blk_cell BK208.out 0).trans rfl; have hcz8_1 : w6.cell? ⟨gb208, 1, none⟩ = some (.int .i64 a0_1) := (blk_cell BK208.out 1).trans rfl; have hcz8_2 : w6.cell? ⟨gb208, 2, none⟩ = some (.slice A0_2 l0_2.length c0_2) := (blk_cell BK208.out 2).trans rfl; have hfz8_0 := blk_frozen BK208.out 0; have hfz8_1 := blk_frozen BK208.out 1; have hfz8_2 := blk_frozen BK208.out 2) | ((with_reducible refine gate_callee (f := 7) rfl ?_); refine goesL_ (some 18) rfl rfl Try.func7 (by kernel_rfl) rfl #[.agg #[.int .i64 a0_0, .int .i64 a0_1, .slice A0_2 l0_2.length c0_2], .int .i64 1048576] rfl (by (try simp only [List.map_toArray, List.map_cons, List.map_nil]); first | done | rfl | (simp only [List.length_drop, List.length_take]; rfl)) ?_; (with_reducible refine (laws_szPuzzle.calls a0_0 a0_1 _ _ l0_2 1048576 t210 _ ?side1 ?side2 A3.out).mono ?_); (case side1 => repeat (first | exact (Kd.C_below HR0_2.out HB.out) | (with_reducible refine Kd.C_alloc ?_ _) | (with_reducible refine Kd.C_drewN ?_ _) | (with_reducible refine Kd.C_drew ?_))); (case side2 => exact HC0_2.out); rintro e w9 ⟨rfl, hb⟩; refine ⟨_, rfl, ?_⟩; replace BK208 := As_ (blk_b hb BK208.out); replace BK209 := As_ (blk_b hb BK209.out); replace HB := As_ (below_step (by repeat (first | (with_reducible first | exact HB.out | apply below_alloc | apply pw_below_drewN | apply below_drew1 | refine below_setA ?_ (by assumption)) | exact HB.out)) hb); (try clear hb)))
    go_ret
    exact ⟨by first | rfl | (simp [errW_none, errW_some] <;> rfl) | (simp [*, errW_none, errW_some] <;> rfl), by repeat (first | (with_reducible first | exact HB.out | apply below_alloc | apply pw_below_drewN | apply below_drew1 | refine below_setA ?_ (by assumption)) | exact HB.out)⟩
  · rw [if_neg c4] at H
    have c4b0 : decide (t210 < 0) = false := decide_eq_false c4
    clear c4
    replace H := Option.bind_eq_some_iff.mp H
    obtain ⟨⟨t211, t212, t213⟩, A100, H⟩ := H
    try dsimp only at H
    have A10 := As_ A100
    clear A100
    replace H := Option.bind_eq_some_iff.mp H
    obtain ⟨⟨t216, t217, t218⟩, A110, H⟩ := H
    try dsimp only at H
    have A11 := As_ A110
    clear A110
    replace H := Option.bind_eq_some_iff.mp H
    obtain ⟨⟨t219, t220, t221, t224⟩, A120, H⟩ := H
    try dsimp only at H
    have A12 := As_ A120
    clear A120
    replace H := Option.bind_eq_some_iff.mp H
    obtain ⟨⟨t226, t227, t228⟩, A130, H⟩ := H
    try dsimp only at H
    have A13 := As_ A130
    clear A130
    replace H := Option.bind_eq_some_iff.mp H
    obtain ⟨⟨t232, t233, t234⟩, A140, H⟩ := H
    try dsimp only at H
    have A14 := As_ A140
    clear A140
    replace H := Option.bind_eq_some_iff.mp H
    obtain ⟨⟨t235, t236, t237, t240⟩, A150, H⟩ := H
    try dsimp only at H
    have A15 := As_ A150
    clear A150
    have HC16 := As_ H
    clear H
    go_enter Try.func3, Try.ntmps3
    try go_wp2_with (first | ((with_reducible refine gate_dst (N := 2) rfl ?_); refine box_event ?hg (N := 2) ?hd (cs := #[.int .i64 a0_0, .int .i64 a0_1, .slice A0_2 l0_2.length c0_2]) (t := 24) ?hr ?_; (case hd => rfl); (case hg => rfl); (case hr => first | (go_simp; done) | (go_simp; rfl)); intro gb208 hg w17 hbox hb; have BK208 := As_ (hbox); have GW208 := As_ ((by rw [hg]; exact (below_size (by repeat (first | (with_reducible first | exact HB.out | apply below_alloc | apply pw_below_drewN | apply below_drew1) | exact HB.out))) : w.heap.size ≤ gb208)); have GE208 := As_ ((by rw [hg]; exact (below_size (by repeat (first | (with_reducible first | exact HB.out | apply below_alloc | apply pw_below_drewN | apply below_drew1) | exact HB.out))) : w.heap.size ≤ gb208)); replace HB := As_ (below_step (by repeat (first | (with_reducible first | exact HB.out | apply below_alloc | apply pw_below_drewN | apply below_drew1) | exact HB.out)) hb); clear hb hbox hg) | ((with_reducible refine gate_dst (N := 3) rfl ?_); refine box_event ?hg (N := 3) ?hd (cs := #[.int .i64 a1_0, .int .i64 a1_1, .int .i64 a1_2]) (t := 26) ?hr ?_; (case hd => rfl); (case hg => rfl); (case hr => first | (go_simp; done) | (go_simp; rfl)); intro gb209 hg w18 hbox hb; have BK209 := As_ (hbox); have GW209 := As_ ((by rw [hg]; exact (below_size (by repeat (first | (with_reducible first | exact HB.out | apply below_alloc | apply pw_below_drewN | apply below_drew1 | refine below_set ?_ GE208.out) | exact HB.out))) : w.heap.size ≤ gb209)); have GE209 := As_ ((by rw [hg]; exact (below_size (by repeat (first | (with_reducible first | exact HB.out | apply below_alloc | apply pw_below_drewN | apply below_drew1 | refine below_set ?_ GE208.out) | exact HB.out))) : w.heap.size ≤ gb209)); have NB208_209 := As_ (ne_lt hg BK208.out); have NB209_208 := As_ (ne_gt hg BK208.out); replace BK208 := As_ (blk_b hb BK208.out); replace HB := As_ (below_step (by repeat (first | (with_reducible first | exact HB.out | apply below_alloc | apply pw_below_drewN | apply below_drew1 | refine below_set ?_ GE208.out) | exact HB.out)) hb); clear hb hbox hg; have hnb19 := NB208_209.out; have hnc19 := NB209_208.out; have hcz20_0 : w18.cell? ⟨gb208, 0, none⟩ = some (.int .i64 a0_0) := (blk_cell BK208.out 0).trans rfl; have hcz20_1 : w18.cell? ⟨gb208, 1, none⟩ = some (.int .i64 a0_1) := (blk_cell BK208.out 1).trans rfl; have hcz20_2 : w18.cell? ⟨gb208, 2, none⟩ = some (.slice A0_2 l0_2.length c0_2) := (blk_cell BK208.out 2).trans rfl; have hfz20_0 := blk_frozen BK208.out 0; have hfz20_1 := blk_frozen BK208.out 1; have hfz20_2 := blk_frozen BK208.out 2) | ((with_reducible refine gate_callee (f := 7) rfl ?_); refine goesL_ (some 18) rfl rfl Try.func7 (by kernel_rfl) rfl #[.agg #[.int .i64 a0_0, .int .i64 a0_1, .slice A0_2 l0_2.length c0_2], .int .i64 1048576] rfl (by (try simp only [List.map_toArray, List.map_cons, List.map_nil]); first | done | rfl | (simp only [List.length_drop, List.length_take]; rfl)) ?_; (with_reducible refine (laws_szPuzzle.calls a0_0 a0_1 _ _ l0_2 1048576 t210 _ ?side1 ?side2 A3.out).mono ?_); (case side1 => repeat (first | exact (Kd.C_below HR0_2.out HB.out) | (with_reducible refine Kd.C_alloc ?_ _) | (with_reducible refine Kd.C_drewN ?_ _) | (with_reducible refine Kd.C_drew ?_))); (case side2 => exact HC0_2.out); rintro e w21 ⟨rfl, hb⟩; refine ⟨_, rfl, ?_⟩; replace BK208 := As_ (blk_b hb BK208.out); replace BK209 := As_ (blk_b hb BK209.out); replace HB := As_ (below_step (by repeat (first | (with_reducible first | exact HB.out | apply below_alloc | apply pw_below_drewN | apply below_drew1 | refine below_setA ?_ (by assumption)) | exact HB.out)) hb); (try clear hb)))
    replace BK208 := As_ (blk_drew BK208.out)
    replace BK209 := As_ (blk_drew BK209.out)
    replace HB := As_ (below_drew1 HB.out)
    refine start_ (n := 11) (S := fun w' => w'.cell? ⟨gb208, 0, none⟩ = some (.int .i64 a0_0) ∧ w'.cell? ⟨gb208, 1, none⟩ = some (.int .i64 a0_1) ∧ w'.cell? ⟨gb208, 2, none⟩ = some (.slice A0_2 l0_2.length c0_2) ∧ w'.cell? ⟨gb209, 0, none⟩ = some (.int .i64 a1_0) ∧ w'.cell? ⟨gb209, 1, none⟩ = some (.int .i64 a1_1) ∧ w'.cell? ⟨gb209, 2, none⟩ = some (.int .i64 a1_2)) (ds := []) #[false, false, false, false, false, false, false, false, false, false, false] (by kernel_rfl) rfl rfl ⟨(blk_cell BK208.out 0).trans rfl, (blk_cell BK208.out 1).trans rfl, (blk_cell BK208.out 2).trans rfl, (blk_cell BK209.out 0).trans rfl, (blk_cell BK209.out 1).trans rfl, (blk_cell BK209.out 2).trans rfl⟩ (fun hHeld => ?_); refine with_tabW laws_FnExactAddClue.tab5 laws_FnExactAddClue.bits5 (fun HT_ HW_ => ?_)
    generalize w21.drew = w22 at BK208 BK209 HB hHeld ⊢
    refine take_ (i := 0) (N := some 22) (v := ?_) (a' := ?_) #[true, false, false, false, false, false, false, false, false, false, false] rfl rfl (take_ofW HT_.out HW_.out (by kernel_rfl)) (fun _ _ _ h => h) (Or.inl ⟨by rfl, ?_⟩) hHeld ?_ ?_
    rotate_left
    · rintro w' ⟨s0, s1, s2, s3, s4, s5⟩
      go_simp
      with_reducible rfl
    rotate_left
    · simp only [Act.put, List.setIfInBounds_toArray, List.set_cons_zero, List.set_cons_succ, i64_w, i32_w]
      rfl
    refine take_ (i := 2) (N := some 24) (v := ?_) (a' := ?_) #[true, false, true, false, false, false, false, false, false, false, false] rfl rfl (take_ofW HT_.out HW_.out (by kernel_rfl)) (fun _ _ _ h => h) (Or.inl ⟨by rfl, ?_⟩) hHeld ?_ ?_
    rotate_left
    · rintro w' ⟨s0, s1, s2, s3, s4, s5⟩
      go_simp
      with_reducible rfl
    rotate_left
    · simp only [Act.put, List.setIfInBounds_toArray, List.set_cons_zero, List.set_cons_succ, i64_w, i32_w]
      rfl
    refine join_ (σ := Value × Value × Nat) 2 #[true, true, true, true, true, true, true, true, true, false, false] (fun s_ => [(23, .agg #[.int .i64 t211, .int .i64 t212, s_.1]), (25, .agg #[.int .i64 t216, .int .i64 t217, .int .i64 t218]), (26, .tuple #[.agg #[.int .i64 t219, .int .i64 t220, s_.2.1], .bool t224]), (6, .pointer (some ⟨s_.2.2, 0, none⟩)), (21, .tuple #[.agg #[.int .i64 t219, .int .i64 t220, s_.2.1], .bool t224]), (27, .agg #[.int .i64 t219, .int .i64 t220, s_.2.1]), (28, .bool t224)]) (fun s_ w' => (w'.cell? ⟨gb208, 0, none⟩ = some (.int .i64 a0_0) ∧ w'.cell? ⟨gb208, 1, none⟩ = some (.int .i64 a0_1) ∧ w'.cell? ⟨gb208, 2, none⟩ = some (.slice A0_2 l0_2.length c0_2) ∧ w'.cell? ⟨gb209, 0, none⟩ = some (.int .i64 a1_0) ∧ w'.cell? ⟨gb209, 1, none⟩ = some (.int .i64 a1_1) ∧ w'.cell? ⟨gb209, 2, none⟩ = some (.int .i64 a1_2)) ∧ (Kd.R k34 34 w' w.heap.size (fun k_ => some k_ ≠ (s_.2.1 : Value).ownBlock) s_.1 t213) ∧ (Kd.R k34 34 w' w.heap.size (fun k_ => some k_ ≠ (s_.1 : Value).ownBlock) s_.2.1 t221) ∧ (w'.heap[gb208]? = some (.cells #[.int .i64 a0_0, .int .i64 a0_1, .slice A0_2 l0_2.length c0_2] 24 (0, 0))) ∧ (w'.heap[gb209]? = some (.cells #[.int .i64 a1_0, .int .i64 a1_1, .int .i64 a1_2] 26 (0, 0))) ∧ (w'.heap[s_.2.2]? = some (.cells #[.int .i64 0, .int .i64 0, .slice none 0 0] 30 (0, 0))) ∧ (w.heap.size ≤ s_.2.2) ∧ (w.heap.size ≤ s_.2.2) ∧ (gb208 ≠ s_.2.2) ∧ (s_.2.2 ≠ gb208) ∧ (gb209 ≠ s_.2.2) ∧ (s_.2.2 ≠ gb209) ∧ (Below w.heap.size w w')) ?_ ?_
    rotate_left
    · intro hCont
      refine two_ (i := 1) (j := 8) (Ni := some 23) (Nj := some 6) #[true, true, true, false, false, false, false, false, false, false, false] #[true, false, true, false, false, false, false, false, true, false, false] rfl rfl rfl rfl (two_of HT_.out (by kernel_rfl)) (by decide) (by decide) (fun K hK => ?_) (fun K hK => ?_)
      · skip
        refine goes_ Try.func9 (by kernel_rfl) rfl #[.agg #[.int .i64 a0_0, .int .i64 a0_1, .slice A0_2 l0_2.length c0_2]] (by rfl) rfl rfl (by (try simp only [List.map_toArray, List.map_cons, List.map_nil]); first | done | rfl | (simp only [List.length_drop, List.length_take]; rfl)) ?_
        with_reducible refine (laws_toPuzzle.calls k a0_0 a0_1 _ _ l0_2 t211 t212 t213 _ ?side1 ?side2 A10.out).mono ?_
        (case side1 => repeat (first | exact (Kd.C_below HR0_2.out HB.out) | (with_reducible refine Kd.C_alloc ?_ _) | (with_reducible refine Kd.C_drewN ?_ _) | (with_reducible refine Kd.C_drew ?_)))
        (case side2 => exact HC0_2.out)
        rintro e w23 ⟨v214, rfl, ho0, hb⟩
        refine ⟨_, rfl, ?_⟩
        have HO215 := As_ (Kd.R_lower ho0 (below_size (by repeat (first | (with_reducible first | exact HB.out | apply below_alloc | apply pw_below_drewN | apply below_drew1 | refine below_setA ?_ (by assumption)) | exact HB.out))))
        replace BK208 := As_ (blk_b hb BK208.out)
        replace BK209 := As_ (blk_b hb BK209.out)
        replace HB := As_ (below_step (by repeat (first | (with_reducible first | exact HB.out | apply below_alloc | apply pw_below_drewN | apply below_drew1 | refine below_setA ?_ (by assumption)) | exact HB.out)) hb)
        (try clear hb)
        (try clear hb2)
        (try clear hk)
        (try clear hi)
        (try clear ho0)
        refine hK.out _ _ ⟨(blk_cell BK208.out 0).trans rfl, (blk_cell BK208.out 1).trans rfl, (blk_cell BK208.out 2).trans rfl, (blk_cell BK209.out 0).trans rfl, (blk_cell BK209.out 1).trans rfl, (blk_cell BK209.out 2).trans rfl⟩ (fun hHeld => ?_)
        clear hK K
        refine norm_ (a' := ?_) ?_ ?_
        rotate_left
        · show Act.put _ (some 23) _ = _
          simp only [Act.put, List.setIfInBounds_toArray, List.set_cons_zero, List.set_cons_succ, i64_w, i32_w]
          rfl
        refine two_ (i := 3) (j := 8) (Ni := some 25) (Nj := some 6) #[true, true, true, true, false, false, false, false, false, false, false] #[true, true, true, false, false, false, false, false, true, false, false] rfl rfl rfl rfl (two_of HT_.out (by kernel_rfl)) (by decide) (by decide) (fun K hK => ?_) (fun K hK => ?_)
        · skip
          refine goes_ Try.func10 (by kernel_rfl) rfl #[.agg #[.int .i64 a1_0, .int .i64 a1_1, .int .i64 a1_2]] (by rfl) rfl rfl (by (try simp only [List.map_toArray, List.map_cons, List.map_nil]); first | done | rfl | (simp only [List.length_drop, List.length_take]; rfl)) ?_
          with_reducible refine (laws_toClue.calls a1_0 a1_1 a1_2 t216 t217 t218 _ A11.out).mono ?_
          rintro e w24 ⟨rfl, hb⟩
          refine ⟨_, rfl, ?_⟩
          replace HO215 := As_ (Kd.R_below (by (with_reducible repeat (first | apply Kd.R_alloc | apply Kd.R_drewN | apply Kd.R_drew)); exact HO215.out) hb)
          replace BK208 := As_ (blk_b hb BK208.out)
          replace BK209 := As_ (blk_b hb BK209.out)
          replace HB := As_ (below_step (by repeat (first | (with_reducible first | exact HB.out | apply below_alloc | apply pw_below_drewN | apply below_drew1 | refine below_setA ?_ (by assumption)) | exact HB.out)) hb)
          (try clear hb)
          (try clear hb2)
          (try clear hk)
          (try clear hi)
          obtain ⟨Ao25, co25, eo25⟩ := Kd.R_slice HO215.out
          (first | subst eo25 | (injection eo25 with f1_ f2_ f3_; have f4_ := f1_.symm; have f5_ := f3_.symm; clear f1_ f2_ f3_; subst f4_; subst f5_))
          refine hK.out _ _ ⟨(blk_cell BK208.out 0).trans rfl, (blk_cell BK208.out 1).trans rfl, (blk_cell BK208.out 2).trans rfl, (blk_cell BK209.out 0).trans rfl, (blk_cell BK209.out 1).trans rfl, (blk_cell BK209.out 2).trans rfl⟩ (fun hHeld => ?_)
          clear hK K
          refine norm_ (a' := ?_) ?_ ?_
          rotate_left
          · show Act.put _ (some 25) _ = _
            simp only [Act.put, List.setIfInBounds_toArray, List.set_cons_zero, List.set_cons_succ, i64_w, i32_w]
            rfl
          refine two_ (i := 4) (j := 8) (Ni := some 26) (Nj := some 6) #[true, true, true, true, true, false, false, false, false, false, false] #[true, true, true, true, false, false, false, false, true, false, false] rfl rfl rfl rfl (two_of HT_.out (by kernel_rfl)) (by decide) (by decide) (fun K hK => ?_) (fun K hK => ?_)
          · skip
            refine goes_ Try.func8 (by kernel_rfl) rfl #[.agg #[.int .i64 t211, .int .i64 t212, .slice Ao25 t213.length co25], .agg #[.int .i64 t216, .int .i64 t217, .int .i64 t218]] (by rfl) rfl rfl (by (try simp only [List.map_toArray, List.map_cons, List.map_nil]); first | done | rfl | (simp only [List.length_drop, List.length_take]; rfl)) ?_
            with_reducible refine (spec_AddClue.calls k t211 t212 _ _ t213 t216 t217 t218 t219 t220 t221 t224 _ ?side1 ?side2 A12.out).mono ?_
            (case side1 => repeat (first | exact (Kd.R_reads' HO215.out).2.2 | (with_reducible refine Kd.C_alloc ?_ _) | (with_reducible refine Kd.C_drewN ?_ _) | (with_reducible refine Kd.C_drew ?_)))
            (case side2 => exact (Kd.R_reads' HO215.out).2.1)
            rintro e w26 ⟨v222, rfl, ho0, hb⟩
            refine ⟨_, rfl, ?_⟩
            have HO223 := As_ (Kd.R_lower (Kd.R_new' ho0 (Kd.R_lt (by (with_reducible repeat (first | apply Kd.R_alloc | apply Kd.R_drewN | apply Kd.R_drew)); exact HO215.out))) (below_size (by repeat (first | (with_reducible first | exact HB.out | apply below_alloc | apply pw_below_drewN | apply below_drew1 | refine below_setA ?_ (by assumption)) | exact HB.out))))
            replace HO215 := As_ (Kd.R_elder' (by (with_reducible repeat (first | apply Kd.R_alloc | apply Kd.R_drewN | apply Kd.R_drew)); exact HO215.out) (Kd.R_base ho0) hb)
            replace BK208 := As_ (blk_b hb BK208.out)
            replace BK209 := As_ (blk_b hb BK209.out)
            replace HB := As_ (below_step (by repeat (first | (with_reducible first | exact HB.out | apply below_alloc | apply pw_below_drewN | apply below_drew1 | refine below_setA ?_ (by assumption)) | exact HB.out)) hb)
            (try clear hb)
            (try clear hb2)
            (try clear hk)
            (try clear hi)
            (try clear ho0)
            refine hK.out _ _ ⟨(blk_cell BK208.out 0).trans rfl, (blk_cell BK208.out 1).trans rfl, (blk_cell BK208.out 2).trans rfl, (blk_cell BK209.out 0).trans rfl, (blk_cell BK209.out 1).trans rfl, (blk_cell BK209.out 2).trans rfl⟩ (fun hHeld => ?_)
            clear hK K
            refine norm_ (a' := ?_) ?_ ?_
            rotate_left
            · show Act.put _ (some 26) _ = _
              simp only [Act.put, List.setIfInBounds_toArray, List.set_cons_zero, List.set_cons_succ, i64_w, i32_w]
              rfl
            refine pure_ (i := 5) (N := some 21) (v := ?_) (a' := ?_) #[true, true, true, true, true, true, false, false, false, false, false] rfl rfl (any_of HT_.out (by kernel_rfl)) (fun _ _ _ h => h) (Or.inl ⟨by rfl, ?_⟩) ?_ ?_
            rotate_left
            · intro w'
              go_simp
              with_reducible rfl
            rotate_left
            · simp only [Act.put, List.setIfInBounds_toArray, List.set_cons_zero, List.set_cons_succ, i64_w, i32_w]
              rfl
            refine pure_ (i := 6) (N := some 27) (v := ?_) (a' := ?_) #[true, true, true, true, true, true, true, false, false, false, false] rfl rfl (any_of HT_.out (by kernel_rfl)) (fun _ _ _ h => h) (Or.inl ⟨by rfl, ?_⟩) ?_ ?_
            rotate_left
            · intro w'
              go_simp
              with_reducible rfl
            rotate_left
            · simp only [Act.put, List.setIfInBounds_toArray, List.set_cons_zero, List.set_cons_succ, i64_w, i32_w]
              rfl
            refine pure_ (i := 7) (N := some 28) (v := ?_) (a' := ?_) #[true, true, true, true, true, true, true, true, false, false, false] rfl rfl (any_of HT_.out (by kernel_rfl)) (fun _ _ _ h => h) (Or.inl ⟨by rfl, ?_⟩) ?_ ?_
            rotate_left
            · intro w'
              go_simp
              with_reducible rfl
            rotate_left
            · simp only [Act.put, List.setIfInBounds_toArray, List.set_cons_zero, List.set_cons_succ, i64_w, i32_w]
              rfl
            refine one_ (i := 8) (N := some 6) #[true, true, true, true, true, true, true, true, true, false, false] rfl rfl (one_of HT_.out (by kernel_rfl)) (by decide) (fun K hK => ?_)
            refine box_step ?hg (N := 6) ?hd (cs := #[.int .i64 0, .int .i64 0, .slice none 0 0]) (t := 30) ?hr ?_; (case hd => rfl); (case hg => rfl); (case hr => first | (go_simp; done) | (go_simp; rfl))
            intro gb225 hg w27 hbox hb
            have BK225 := As_ (hbox)
            have GW225 := As_ ((by rw [hg]; exact (below_size (by repeat (first | (with_reducible first | exact HB.out | apply below_alloc | apply pw_below_drewN | apply below_drew1 | refine below_setA ?_ (by assumption)) | exact HB.out))) : w.heap.size ≤ gb225))
            have GE225 := As_ ((by rw [hg]; exact (below_size (by repeat (first | (with_reducible first | exact HB.out | apply below_alloc | apply pw_below_drewN | apply below_drew1 | refine below_setA ?_ (by assumption)) | exact HB.out))) : w.heap.size ≤ gb225))
            have NB208_225 := As_ (ne_lt hg BK208.out)
            have NB225_208 := As_ (ne_gt hg BK208.out)
            have NB209_225 := As_ (ne_lt hg BK209.out)
            have NB225_209 := As_ (ne_gt hg BK209.out)
            replace HO215 := As_ (Kd.R_below (by (with_reducible repeat (first | apply Kd.R_alloc | apply Kd.R_drewN | apply Kd.R_drew)); exact HO215.out) hb)
            replace HO223 := As_ (Kd.R_below (by (with_reducible repeat (first | apply Kd.R_alloc | apply Kd.R_drewN | apply Kd.R_drew)); exact HO223.out) hb)
            replace BK208 := As_ (blk_b hb BK208.out)
            replace BK209 := As_ (blk_b hb BK209.out)
            replace HB := As_ (below_step (by repeat (first | (with_reducible first | exact HB.out | apply below_alloc | apply pw_below_drewN | apply below_drew1 | refine below_setA ?_ (by assumption)) | exact HB.out)) hb)
            clear hb hbox hg
            refine hK.out _ _ ⟨(blk_cell BK208.out 0).trans rfl, (blk_cell BK208.out 1).trans rfl, (blk_cell BK208.out 2).trans rfl, (blk_cell BK209.out 0).trans rfl, (blk_cell BK209.out 1).trans rfl, (blk_cell BK209.out 2).trans rfl⟩ (fun hHeld => ?_)
            clear hK K
            refine norm_ (a' := ?_) ?_ ?_
            rotate_left
            · show Act.put _ (some 6) _ = _
              simp only [Act.put, List.setIfInBounds_toArray, List.set_cons_zero, List.set_cons_succ, i64_w, i32_w]
              rfl
            exact norm_ (by simp only [putAll, Act.put, List.setIfInBounds_toArray, List.set_cons_zero, List.set_cons_succ]) (hCont (.slice Ao25 t213.length co25, v222, gb225) _ ⟨hHeld, (by (with_reducible repeat (first | apply Kd.R_alloc | apply Kd.R_drewN | apply Kd.R_drew)); exact Kd.R_mono HO215.out (fun _ hk => hk.2)), (by (with_reducible repeat (first | apply Kd.R_alloc | apply Kd.R_drewN | apply Kd.R_drew)); exact Kd.R_mono HO223.out (fun _ hk => hk.2)), BK208.out, BK209.out, BK225.out, GW225.out, GE225.out, NB208_225.out, NB225_208.out, NB209_225.out, NB225_209.out, (by repeat (first | (with_reducible first | exact HB.out | apply below_alloc | apply pw_below_drewN | apply below_drew1 | refine below_setA ?_ (by assumption)) | exact HB.out))⟩)
          · skip
            refine box_step ?hg (N := 6) ?hd (cs := #[.int .i64 0, .int .i64 0, .slice none 0 0]) (t := 30) ?hr ?_; (case hd => rfl); (case hg => rfl); (case hr => first | (go_simp; done) | (go_simp; rfl))
            intro gb225 hg w25 hbox hb
            have BK225 := As_ (hbox)
            have GW225 := As_ ((by rw [hg]; exact (below_size (by repeat (first | (with_reducible first | exact HB.out | apply below_alloc | apply pw_below_drewN | apply below_drew1 | refine below_setA ?_ (by assumption)) | exact HB.out))) : w.heap.size ≤ gb225))
            have GE225 := As_ ((by rw [hg]; exact (below_size (by repeat (first | (with_reducible first | exact HB.out | apply below_alloc | apply pw_below_drewN | apply below_drew1 | refine below_setA ?_ (by assumption)) | exact HB.out))) : w.heap.size ≤ gb225))
            have NB208_225 := As_ (ne_lt hg BK208.out)
            have NB225_208 := As_ (ne_gt hg BK208.out)
            have NB209_225 := As_ (ne_lt hg BK209.out)
            have NB225_209 := As_ (ne_gt hg BK209.out)
            replace HO215 := As_ (Kd.R_below (by (with_reducible repeat (first | apply Kd.R_alloc | apply Kd.R_drewN | apply Kd.R_drew)); exact HO215.out) hb)
            replace BK208 := As_ (blk_b hb BK208.out)
            replace BK209 := As_ (blk_b hb BK209.out)
            replace HB := As_ (below_step (by repeat (first | (with_reducible first | exact HB.out | apply below_alloc | apply pw_below_drewN | apply below_drew1 | refine below_setA ?_ (by assumption)) | exact HB.out)) hb)
            clear hb hbox hg
            obtain ⟨Ao26, co26, eo26⟩ := Kd.R_slice HO215.out
            (first | subst eo26 | (injection eo26 with f1_ f2_ f3_; have f4_ := f1_.symm; have f5_ := f3_.symm; clear f1_ f2_ f3_; subst f4_; subst f5_))
            refine hK.out _ _ ⟨(blk_cell BK208.out 0).trans rfl, (blk_cell BK208.out 1).trans rfl, (blk_cell BK208.out 2).trans rfl, (blk_cell BK209.out 0).trans rfl, (blk_cell BK209.out 1).trans rfl, (blk_cell BK209.out 2).trans rfl⟩ (fun hHeld => ?_)
            clear hK K
            refine norm_ (a' := ?_) ?_ ?_
            rotate_left
            · show Act.put _ (some 6) _ = _
              simp only [Act.put, List.setIfInBounds_toArray, List.set_cons_zero, List.set_cons_succ, i64_w, i32_w]
              rfl
            refine one_ (i := 4) (N := some 26) #[true, true, true, true, true, false, false, false, true, false, false] rfl rfl (one_of HT_.out (by kernel_rfl)) (by decide) (fun K hK => ?_)
            refine goes_ Try.func8 (by kernel_rfl) rfl #[.agg #[.int .i64 t211, .int .i64 t212, .slice Ao26 t213.length co26], .agg #[.int .i64 t216, .int .i64 t217, .int .i64 t218]] (by rfl) rfl rfl (by (try simp only [List.map_toArray, List.map_cons, List.map_nil]); first | done | rfl | (simp only [List.length_drop, List.length_take]; rfl)) ?_
            with_reducible refine (spec_AddClue.calls k t211 t212 _ _ t213 t216 t217 t218 t219 t220 t221 t224 _ ?side1 ?side2 A12.out).mono ?_
            (case side1 => repeat (first | exact (Kd.R_reads' HO215.out).2.2 | (with_reducible refine Kd.C_alloc ?_ _) | (with_reducible refine Kd.C_drewN ?_ _) | (with_reducible refine Kd.C_drew ?_)))
            (case side2 => exact (Kd.R_reads' HO215.out).2.1)
            rintro e w27 ⟨v222, rfl, ho0, hb⟩
            refine ⟨_, rfl, ?_⟩
            have HO223 := As_ (Kd.R_lower (Kd.R_new' ho0 (Kd.R_lt (by (with_reducible repeat (first | apply Kd.R_alloc | apply Kd.R_drewN | apply Kd.R_drew)); exact HO215.out))) (below_size (by repeat (first | (with_reducible first | exact HB.out | apply below_alloc | apply pw_below_drewN | apply below_drew1 | refine below_setA ?_ (by assumption)) | exact HB.out))))
            replace HO215 := As_ (Kd.R_elder' (by (with_reducible repeat (first | apply Kd.R_alloc | apply Kd.R_drewN | apply Kd.R_drew)); exact HO215.out) (Kd.R_base ho0) hb)
            replace BK208 := As_ (blk_b hb BK208.out)
            replace BK209 := As_ (blk_b hb BK209.out)
            replace BK225 := As_ (blk_b hb BK225.out)
            replace HB := As_ (below_step (by repeat (first | (with_reducible first | exact HB.out | apply below_alloc | apply pw_below_drewN | apply below_drew1 | refine below_setA ?_ (by assumption)) | exact HB.out)) hb)
            (try clear hb)
            (try clear hb2)
            (try clear hk)
            (try clear hi)
            (try clear ho0)
            refine hK.out _ _ ⟨(blk_cell BK208.out 0).trans rfl, (blk_cell BK208.out 1).trans rfl, (blk_cell BK208.out 2).trans rfl, (blk_cell BK209.out 0).trans rfl, (blk_cell BK209.out 1).trans rfl, (blk_cell BK209.out 2).trans rfl⟩ (fun hHeld => ?_)
            clear hK K
            refine norm_ (a' := ?_) ?_ ?_
            rotate_left
            · show Act.put _ (some 26) _ = _
              simp only [Act.put, List.setIfInBounds_toArray, List.set_cons_zero, List.set_cons_succ, i64_w, i32_w]
              rfl
            refine pure_ (i := 5) (N := some 21) (v := ?_) (a' := ?_) #[true, true, true, true, true, true, false, false, true, false, false] rfl rfl (any_of HT_.out (by kernel_rfl)) (fun _ _ _ h => h) (Or.inl ⟨by rfl, ?_⟩) ?_ ?_
            rotate_left
            · intro w'
              go_simp
              with_reducible rfl
            rotate_left
            · simp only [Act.put, List.setIfInBounds_toArray, List.set_cons_zero, List.set_cons_succ, i64_w, i32_w]
              rfl
            refine pure_ (i := 6) (N := some 27) (v := ?_) (a' := ?_) #[true, true, true, true, true, true, true, false, true, false, false] rfl rfl (any_of HT_.out (by kernel_rfl)) (fun _ _ _ h => h) (Or.inl ⟨by rfl, ?_⟩) ?_ ?_
            rotate_left
            · intro w'
              go_simp
              with_reducible rfl
            rotate_left
            · simp only [Act.put, List.setIfInBounds_toArray, List.set_cons_zero, List.set_cons_succ, i64_w, i32_w]
              rfl
            refine pure_ (i := 7) (N := some 28) (v := ?_) (a' := ?_) #[true, true, true, true, true, true, true, true, true, false, false] rfl rfl (any_of HT_.out (by kernel_rfl)) (fun _ _ _ h => h) (Or.inl ⟨by rfl, ?_⟩) ?_ ?_
            rotate_left
            · intro w'
              go_simp
              with_reducible rfl
            rotate_left
            · simp only [Act.put, List.setIfInBounds_toArray, List.set_cons_zero, List.set_cons_succ, i64_w, i32_w]
              rfl
            exact norm_ (by simp only [putAll, Act.put, List.setIfInBounds_toArray, List.set_cons_zero, List.set_cons_succ]) (hCont (.slice Ao26 t213.length co26, v222, gb225) _ ⟨hHeld, (by (with_reducible repeat (first | apply Kd.R_alloc | apply Kd.R_drewN | apply Kd.R_drew)); exact Kd.R_mono HO215.out (fun _ hk => hk.2)), (by (with_reducible repeat (first | apply Kd.R_alloc | apply Kd.R_drewN | apply Kd.R_drew)); exact Kd.R_mono HO223.out (fun _ hk => hk.2)), BK208.out, BK209.out, BK225.out, GW225.out, GE225.out, NB208_225.out, NB225_208.out, NB209_225.out, NB225_209.out, (by repeat (first | (with_reducible first | exact HB.out | apply below_alloc | apply pw_below_drewN | apply below_drew1 | refine below_setA ?_ (by assumption)) | exact HB.out))⟩)
        · skip
          refine box_step ?hg (N := 6) ?hd (cs := #[.int .i64 0, .int .i64 0, .slice none 0 0]) (t := 30) ?hr ?_; (case hd => rfl); (case hg => rfl); (case hr => first | (go_simp; done) | (go_simp; rfl))
          intro gb225 hg w24 hbox hb
          have BK225 := As_ (hbox)
          have GW225 := As_ ((by rw [hg]; exact (below_size (by repeat (first | (with_reducible first | exact HB.out | apply below_alloc | apply pw_below_drewN | apply below_drew1 | refine below_setA ?_ (by assumption)) | exact HB.out))) : w.heap.size ≤ gb225))
          have GE225 := As_ ((by rw [hg]; exact (below_size (by repeat (first | (with_reducible first | exact HB.out | apply below_alloc | apply pw_below_drewN | apply below_drew1 | refine below_setA ?_ (by assumption)) | exact HB.out))) : w.heap.size ≤ gb225))
          have NB208_225 := As_ (ne_lt hg BK208.out)
          have NB225_208 := As_ (ne_gt hg BK208.out)
          have NB209_225 := As_ (ne_lt hg BK209.out)
          have NB225_209 := As_ (ne_gt hg BK209.out)
          replace HO215 := As_ (Kd.R_below (by (with_reducible repeat (first | apply Kd.R_alloc | apply Kd.R_drewN | apply Kd.R_drew)); exact HO215.out) hb)
          replace BK208 := As_ (blk_b hb BK208.out)
          replace BK209 := As_ (blk_b hb BK209.out)
          replace HB := As_ (below_step (by repeat (first | (with_reducible first | exact HB.out | apply below_alloc | apply pw_below_drewN | apply below_drew1 | refine below_setA ?_ (by assumption)) | exact HB.out)) hb)
          clear hb hbox hg
          refine hK.out _ _ ⟨(blk_cell BK208.out 0).trans rfl, (blk_cell BK208.out 1).trans rfl, (blk_cell BK208.out 2).trans rfl, (blk_cell BK209.out 0).trans rfl, (blk_cell BK209.out 1).trans rfl, (blk_cell BK209.out 2).trans rfl⟩ (fun hHeld => ?_)
          clear hK K
          refine norm_ (a' := ?_) ?_ ?_
          rotate_left
          · show Act.put _ (some 6) _ = _
            simp only [Act.put, List.setIfInBounds_toArray, List.set_cons_zero, List.set_cons_succ, i64_w, i32_w]
            rfl
          refine one_ (i := 3) (N := some 25) #[true, true, true, true, false, false, false, false, true, false, false] rfl rfl (one_of HT_.out (by kernel_rfl)) (by decide) (fun K hK => ?_)
          refine goes_ Try.func10 (by kernel_rfl) rfl #[.agg #[.int .i64 a1_0, .int .i64 a1_1, .int .i64 a1_2]] (by rfl) rfl rfl (by (try simp only [List.map_toArray, List.map_cons, List.map_nil]); first | done | rfl | (simp only [List.length_drop, List.length_take]; rfl)) ?_
          with_reducible refine (laws_toClue.calls a1_0 a1_1 a1_2 t216 t217 t218 _ A11.out).mono ?_
          rintro e w25 ⟨rfl, hb⟩
          refine ⟨_, rfl, ?_⟩
          replace HO215 := As_ (Kd.R_below (by (with_reducible repeat (first | apply Kd.R_alloc | apply Kd.R_drewN | apply Kd.R_drew)); exact HO215.out) hb)
          replace BK208 := As_ (blk_b hb BK208.out)
          replace BK209 := As_ (blk_b hb BK209.out)
          replace BK225 := As_ (blk_b hb BK225.out)
          replace HB := As_ (below_step (by repeat (first | (with_reducible first | exact HB.out | apply below_alloc | apply pw_below_drewN | apply below_drew1 | refine below_setA ?_ (by assumption)) | exact HB.out)) hb)
          (try clear hb)
          (try clear hb2)
          (try clear hk)
          (try clear hi)
          obtain ⟨Ao26, co26, eo26⟩ := Kd.R_slice HO215.out
          (first | subst eo26 | (injection eo26 with f1_ f2_ f3_; have f4_ := f1_.symm; have f5_ := f3_.symm; clear f1_ f2_ f3_; subst f4_; subst f5_))
          refine hK.out _ _ ⟨(blk_cell BK208.out 0).trans rfl, (blk_cell BK208.out 1).trans rfl, (blk_cell BK208.out 2).trans rfl, (blk_cell BK209.out 0).trans rfl, (blk_cell BK209.out 1).trans rfl, (blk_cell BK209.out 2).trans rfl⟩ (fun hHeld => ?_)
          clear hK K
          refine norm_ (a' := ?_) ?_ ?_
          rotate_left
          · show Act.put _ (some 25) _ = _
            simp only [Act.put, List.setIfInBounds_toArray, List.set_cons_zero, List.set_cons_succ, i64_w, i32_w]
            rfl
          refine one_ (i := 4) (N := some 26) #[true, true, true, true, true, false, false, false, true, false, false] rfl rfl (one_of HT_.out (by kernel_rfl)) (by decide) (fun K hK => ?_)
          refine goes_ Try.func8 (by kernel_rfl) rfl #[.agg #[.int .i64 t211, .int .i64 t212, .slice Ao26 t213.length co26], .agg #[.int .i64 t216, .int .i64 t217, .int .i64 t218]] (by rfl) rfl rfl (by (try simp only [List.map_toArray, List.map_cons, List.map_nil]); first | done | rfl | (simp only [List.length_drop, List.length_take]; rfl)) ?_
          with_reducible refine (spec_AddClue.calls k t211 t212 _ _ t213 t216 t217 t218 t219 t220 t221 t224 _ ?side1 ?side2 A12.out).mono ?_
          (case side1 => repeat (first | exact (Kd.R_reads' HO215.out).2.2 | (with_reducible refine Kd.C_alloc ?_ _) | (with_reducible refine Kd.C_drewN ?_ _) | (with_reducible refine Kd.C_drew ?_)))
          (case side2 => exact (Kd.R_reads' HO215.out).2.1)
          rintro e w27 ⟨v222, rfl, ho0, hb⟩
          refine ⟨_, rfl, ?_⟩
          have HO223 := As_ (Kd.R_lower (Kd.R_new' ho0 (Kd.R_lt (by (with_reducible repeat (first | apply Kd.R_alloc | apply Kd.R_drewN | apply Kd.R_drew)); exact HO215.out))) (below_size (by repeat (first | (with_reducible first | exact HB.out | apply below_alloc | apply pw_below_drewN | apply below_drew1 | refine below_setA ?_ (by assumption)) | exact HB.out))))
          replace HO215 := As_ (Kd.R_elder' (by (with_reducible repeat (first | apply Kd.R_alloc | apply Kd.R_drewN | apply Kd.R_drew)); exact HO215.out) (Kd.R_base ho0) hb)
          replace BK208 := As_ (blk_b hb BK208.out)
          replace BK209 := As_ (blk_b hb BK209.out)
          replace BK225 := As_ (blk_b hb BK225.out)
          replace HB := As_ (below_step (by repeat (first | (with_reducible first | exact HB.out | apply below_alloc | apply pw_below_drewN | apply below_drew1 | refine below_setA ?_ (by assumption)) | exact HB.out)) hb)
          (try clear hb)
          (try clear hb2)
          (try clear hk)
          (try clear hi)
          (try clear ho0)
          refine hK.out _ _ ⟨(blk_cell BK208.out 0).trans rfl, (blk_cell BK208.out 1).trans rfl, (blk_cell BK208.out 2).trans rfl, (blk_cell BK209.out 0).trans rfl, (blk_cell BK209.out 1).trans rfl, (blk_cell BK209.out 2).trans rfl⟩ (fun hHeld => ?_)
          clear hK K
          refine norm_ (a' := ?_) ?_ ?_
          rotate_left
          · show Act.put _ (some 26) _ = _
            simp only [Act.put, List.setIfInBounds_toArray, List.set_cons_zero, List.set_cons_succ, i64_w, i32_w]
            rfl
          refine pure_ (i := 5) (N := some 21) (v := ?_) (a' := ?_) #[true, true, true, true, true, true, false, false, true, false, false] rfl rfl (any_of HT_.out (by kernel_rfl)) (fun _ _ _ h => h) (Or.inl ⟨by rfl, ?_⟩) ?_ ?_
          rotate_left
          · intro w'
            go_simp
            with_reducible rfl
          rotate_left
          · simp only [Act.put, List.setIfInBounds_toArray, List.set_cons_zero, List.set_cons_succ, i64_w, i32_w]
            rfl
          refine pure_ (i := 6) (N := some 27) (v := ?_) (a' := ?_) #[true, true, true, true, true, true, true, false, true, false, false] rfl rfl (any_of HT_.out (by kernel_rfl)) (fun _ _ _ h => h) (Or.inl ⟨by rfl, ?_⟩) ?_ ?_
          rotate_left
          · intro w'
            go_simp
            with_reducible rfl
          rotate_left
          · simp only [Act.put, List.setIfInBounds_toArray, List.set_cons_zero, List.set_cons_succ, i64_w, i32_w]
            rfl
          refine pure_ (i := 7) (N := some 28) (v := ?_) (a' := ?_) #[true, true, true, true, true, true, true, true, true, false, false] rfl rfl (any_of HT_.out (by kernel_rfl)) (fun _ _ _ h => h) (Or.inl ⟨by rfl, ?_⟩) ?_ ?_
          rotate_left
          · intro w'
            go_simp
            with_reducible rfl
          rotate_left
          · simp only [Act.put, List.setIfInBounds_toArray, List.set_cons_zero, List.set_cons_succ, i64_w, i32_w]
            rfl
          exact norm_ (by simp only [putAll, Act.put, List.setIfInBounds_toArray, List.set_cons_zero, List.set_cons_succ]) (hCont (.slice Ao26 t213.length co26, v222, gb225) _ ⟨hHeld, (by (with_reducible repeat (first | apply Kd.R_alloc | apply Kd.R_drewN | apply Kd.R_drew)); exact Kd.R_mono HO215.out (fun _ hk => hk.2)), (by (with_reducible repeat (first | apply Kd.R_alloc | apply Kd.R_drewN | apply Kd.R_drew)); exact Kd.R_mono HO223.out (fun _ hk => hk.2)), BK208.out, BK209.out, BK225.out, GW225.out, GE225.out, NB208_225.out, NB225_208.out, NB209_225.out, NB225_209.out, (by repeat (first | (with_reducible first | exact HB.out | apply below_alloc | apply pw_below_drewN | apply below_drew1 | refine below_setA ?_ (by assumption)) | exact HB.out))⟩)
      · skip
        refine box_step ?hg (N := 6) ?hd (cs := #[.int .i64 0, .int .i64 0, .slice none 0 0]) (t := 30) ?hr ?_; (case hd => rfl); (case hg => rfl); (case hr => first | (go_simp; done) | (go_simp; rfl))
        intro gb225 hg w23 hbox hb
        have BK225 := As_ (hbox)
        have GW225 := As_ ((by rw [hg]; exact (below_size (by repeat (first | (with_reducible first | exact HB.out | apply below_alloc | apply pw_below_drewN | apply below_drew1 | refine below_setA ?_ (by assumption)) | exact HB.out))) : w.heap.size ≤ gb225))
        have GE225 := As_ ((by rw [hg]; exact (below_size (by repeat (first | (with_reducible first | exact HB.out | apply below_alloc | apply pw_below_drewN | apply below_drew1 | refine below_setA ?_ (by assumption)) | exact HB.out))) : w.heap.size ≤ gb225))
        have NB208_225 := As_ (ne_lt hg BK208.out)
        have NB225_208 := As_ (ne_gt hg BK208.out)
        have NB209_225 := As_ (ne_lt hg BK209.out)
        have NB225_209 := As_ (ne_gt hg BK209.out)
        replace BK208 := As_ (blk_b hb BK208.out)
        replace BK209 := As_ (blk_b hb BK209.out)
        replace HB := As_ (below_step (by repeat (first | (with_reducible first | exact HB.out | apply below_alloc | apply pw_below_drewN | apply below_drew1 | refine below_setA ?_ (by assumption)) | exact HB.out)) hb)
        clear hb hbox hg
        refine hK.out _ _ ⟨(blk_cell BK208.out 0).trans rfl, (blk_cell BK208.out 1).trans rfl, (blk_cell BK208.out 2).trans rfl, (blk_cell BK209.out 0).trans rfl, (blk_cell BK209.out 1).trans rfl, (blk_cell BK209.out 2).trans rfl⟩ (fun hHeld => ?_)
        clear hK K
        refine norm_ (a' := ?_) ?_ ?_
        rotate_left
        · show Act.put _ (some 6) _ = _
          simp only [Act.put, List.setIfInBounds_toArray, List.set_cons_zero, List.set_cons_succ, i64_w, i32_w]
          rfl
        refine one_ (i := 1) (N := some 23) #[true, true, true, false, false, false, false, false, true, false, false] rfl rfl (one_of HT_.out (by kernel_rfl)) (by decide) (fun K hK => ?_)
        refine goes_ Try.func9 (by kernel_rfl) rfl #[.agg #[.int .i64 a0_0, .int .i64 a0_1, .slice A0_2 l0_2.length c0_2]] (by rfl) rfl rfl (by (try simp only [List.map_toArray, List.map_cons, List.map_nil]); first | done | rfl | (simp only [List.length_drop, List.length_take]; rfl)) ?_
        with_reducible refine (laws_toPuzzle.calls k a0_0 a0_1 _ _ l0_2 t211 t212 t213 _ ?side1 ?side2 A10.out).mono ?_
        (case side1 => repeat (first | exact (Kd.C_below HR0_2.out HB.out) | (with_reducible refine Kd.C_alloc ?_ _) | (with_reducible refine Kd.C_drewN ?_ _) | (with_reducible refine Kd.C_drew ?_)))
        (case side2 => exact HC0_2.out)
        rintro e w24 ⟨v214, rfl, ho0, hb⟩
        refine ⟨_, rfl, ?_⟩
        have HO215 := As_ (Kd.R_lower ho0 (below_size (by repeat (first | (with_reducible first | exact HB.out | apply below_alloc | apply pw_below_drewN | apply below_drew1 | refine below_setA ?_ (by assumption)) | exact HB.out))))
        replace BK208 := As_ (blk_b hb BK208.out)
        replace BK209 := As_ (blk_b hb BK209.out)
        replace BK225 := As_ (blk_b hb BK225.out)
        replace HB := As_ (below_step (by repeat (first | (with_reducible first | exact HB.out | apply below_alloc | apply pw_below_drewN | apply below_drew1 | refine below_setA ?_ (by assumption)) | exact HB.out)) hb)
        (try clear hb)
        (try clear hb2)
        (try clear hk)
        (try clear hi)
        (try clear ho0)
        refine hK.out _ _ ⟨(blk_cell BK208.out 0).trans rfl, (blk_cell BK208.out 1).trans rfl, (blk_cell BK208.out 2).trans rfl, (blk_cell BK209.out 0).trans rfl, (blk_cell BK209.out 1).trans rfl, (blk_cell BK209.out 2).trans rfl⟩ (fun hHeld => ?_)
        clear hK K
        refine norm_ (a' := ?_) ?_ ?_
        rotate_left
        · show Act.put _ (some 23) _ = _
          simp only [Act.put, List.setIfInBounds_toArray, List.set_cons_zero, List.set_cons_succ, i64_w, i32_w]
          rfl
        refine one_ (i := 3) (N := some 25) #[true, true, true, true, false, false, false, false, true, false, false] rfl rfl (one_of HT_.out (by kernel_rfl)) (by decide) (fun K hK => ?_)
        refine goes_ Try.func10 (by kernel_rfl) rfl #[.agg #[.int .i64 a1_0, .int .i64 a1_1, .int .i64 a1_2]] (by rfl) rfl rfl (by (try simp only [List.map_toArray, List.map_cons, List.map_nil]); first | done | rfl | (simp only [List.length_drop, List.length_take]; rfl)) ?_
        with_reducible refine (laws_toClue.calls a1_0 a1_1 a1_2 t216 t217 t218 _ A11.out).mono ?_
        rintro e w25 ⟨rfl, hb⟩
        refine ⟨_, rfl, ?_⟩
        replace HO215 := As_ (Kd.R_below (by (with_reducible repeat (first | apply Kd.R_alloc | apply Kd.R_drewN | apply Kd.R_drew)); exact HO215.out) hb)
        replace BK208 := As_ (blk_b hb BK208.out)
        replace BK209 := As_ (blk_b hb BK209.out)
        replace BK225 := As_ (blk_b hb BK225.out)
        replace HB := As_ (below_step (by repeat (first | (with_reducible first | exact HB.out | apply below_alloc | apply pw_below_drewN | apply below_drew1 | refine below_setA ?_ (by assumption)) | exact HB.out)) hb)
        (try clear hb)
        (try clear hb2)
        (try clear hk)
        (try clear hi)
        obtain ⟨Ao26, co26, eo26⟩ := Kd.R_slice HO215.out
        (first | subst eo26 | (injection eo26 with f1_ f2_ f3_; have f4_ := f1_.symm; have f5_ := f3_.symm; clear f1_ f2_ f3_; subst f4_; subst f5_))
        refine hK.out _ _ ⟨(blk_cell BK208.out 0).trans rfl, (blk_cell BK208.out 1).trans rfl, (blk_cell BK208.out 2).trans rfl, (blk_cell BK209.out 0).trans rfl, (blk_cell BK209.out 1).trans rfl, (blk_cell BK209.out 2).trans rfl⟩ (fun hHeld => ?_)
        clear hK K
        refine norm_ (a' := ?_) ?_ ?_
        rotate_left
        · show Act.put _ (some 25) _ = _
          simp only [Act.put, List.setIfInBounds_toArray, List.set_cons_zero, List.set_cons_succ, i64_w, i32_w]
          rfl
        refine one_ (i := 4) (N := some 26) #[true, true, true, true, true, false, false, false, true, false, false] rfl rfl (one_of HT_.out (by kernel_rfl)) (by decide) (fun K hK => ?_)
        refine goes_ Try.func8 (by kernel_rfl) rfl #[.agg #[.int .i64 t211, .int .i64 t212, .slice Ao26 t213.length co26], .agg #[.int .i64 t216, .int .i64 t217, .int .i64 t218]] (by rfl) rfl rfl (by (try simp only [List.map_toArray, List.map_cons, List.map_nil]); first | done | rfl | (simp only [List.length_drop, List.length_take]; rfl)) ?_
        with_reducible refine (spec_AddClue.calls k t211 t212 _ _ t213 t216 t217 t218 t219 t220 t221 t224 _ ?side1 ?side2 A12.out).mono ?_
        (case side1 => repeat (first | exact (Kd.R_reads' HO215.out).2.2 | (with_reducible refine Kd.C_alloc ?_ _) | (with_reducible refine Kd.C_drewN ?_ _) | (with_reducible refine Kd.C_drew ?_)))
        (case side2 => exact (Kd.R_reads' HO215.out).2.1)
        rintro e w27 ⟨v222, rfl, ho0, hb⟩
        refine ⟨_, rfl, ?_⟩
        have HO223 := As_ (Kd.R_lower (Kd.R_new' ho0 (Kd.R_lt (by (with_reducible repeat (first | apply Kd.R_alloc | apply Kd.R_drewN | apply Kd.R_drew)); exact HO215.out))) (below_size (by repeat (first | (with_reducible first | exact HB.out | apply below_alloc | apply pw_below_drewN | apply below_drew1 | refine below_setA ?_ (by assumption)) | exact HB.out))))
        replace HO215 := As_ (Kd.R_elder' (by (with_reducible repeat (first | apply Kd.R_alloc | apply Kd.R_drewN | apply Kd.R_drew)); exact HO215.out) (Kd.R_base ho0) hb)
        replace BK208 := As_ (blk_b hb BK208.out)
        replace BK209 := As_ (blk_b hb BK209.out)
        replace BK225 := As_ (blk_b hb BK225.out)
        replace HB := As_ (below_step (by repeat (first | (with_reducible first | exact HB.out | apply below_alloc | apply pw_below_drewN | apply below_drew1 | refine below_setA ?_ (by assumption)) | exact HB.out)) hb)
        (try clear hb)
        (try clear hb2)
        (try clear hk)
        (try clear hi)
        (try clear ho0)
        refine hK.out _ _ ⟨(blk_cell BK208.out 0).trans rfl, (blk_cell BK208.out 1).trans rfl, (blk_cell BK208.out 2).trans rfl, (blk_cell BK209.out 0).trans rfl, (blk_cell BK209.out 1).trans rfl, (blk_cell BK209.out 2).trans rfl⟩ (fun hHeld => ?_)
        clear hK K
        refine norm_ (a' := ?_) ?_ ?_
        rotate_left
        · show Act.put _ (some 26) _ = _
          simp only [Act.put, List.setIfInBounds_toArray, List.set_cons_zero, List.set_cons_succ, i64_w, i32_w]
          rfl
        refine pure_ (i := 5) (N := some 21) (v := ?_) (a' := ?_) #[true, true, true, true, true, true, false, false, true, false, false] rfl rfl (any_of HT_.out (by kernel_rfl)) (fun _ _ _ h => h) (Or.inl ⟨by rfl, ?_⟩) ?_ ?_
        rotate_left
        · intro w'
          go_simp
          with_reducible rfl
        rotate_left
        · simp only [Act.put, List.setIfInBounds_toArray, List.set_cons_zero, List.set_cons_succ, i64_w, i32_w]
          rfl
        refine pure_ (i := 6) (N := some 27) (v := ?_) (a' := ?_) #[true, true, true, true, true, true, true, false, true, false, false] rfl rfl (any_of HT_.out (by kernel_rfl)) (fun _ _ _ h => h) (Or.inl ⟨by rfl, ?_⟩) ?_ ?_
        rotate_left
        · intro w'
          go_simp
          with_reducible rfl
        rotate_left
        · simp only [Act.put, List.setIfInBounds_toArray, List.set_cons_zero, List.set_cons_succ, i64_w, i32_w]
          rfl
        refine pure_ (i := 7) (N := some 28) (v := ?_) (a' := ?_) #[true, true, true, true, true, true, true, true, true, false, false] rfl rfl (any_of HT_.out (by kernel_rfl)) (fun _ _ _ h => h) (Or.inl ⟨by rfl, ?_⟩) ?_ ?_
        rotate_left
        · intro w'
          go_simp
          with_reducible rfl
        rotate_left
        · simp only [Act.put, List.setIfInBounds_toArray, List.set_cons_zero, List.set_cons_succ, i64_w, i32_w]
          rfl
        exact norm_ (by simp only [putAll, Act.put, List.setIfInBounds_toArray, List.set_cons_zero, List.set_cons_succ]) (hCont (.slice Ao26 t213.length co26, v222, gb225) _ ⟨hHeld, (by (with_reducible repeat (first | apply Kd.R_alloc | apply Kd.R_drewN | apply Kd.R_drew)); exact Kd.R_mono HO215.out (fun _ hk => hk.2)), (by (with_reducible repeat (first | apply Kd.R_alloc | apply Kd.R_drewN | apply Kd.R_drew)); exact Kd.R_mono HO223.out (fun _ hk => hk.2)), BK208.out, BK209.out, BK225.out, GW225.out, GE225.out, NB208_225.out, NB225_208.out, NB209_225.out, NB225_209.out, (by repeat (first | (with_reducible first | exact HB.out | apply below_alloc | apply pw_below_drewN | apply below_drew1 | refine below_setA ?_ (by assumption)) | exact HB.out))⟩)
    rintro ⟨v214, v222, gb225⟩ w28 ⟨hS_, h0_, h1_, h2_, h3_, h4_, h5_, h6_, h7_, h8_, h9_, h10_, h11_⟩
    have n0_ : Aside0 (Kd.R k34 34 w28 w.heap.size (fun k_ => some k_ ≠ (v222 : Value).ownBlock) v214 t213) := ⟨h0_⟩
    have n1_ : Aside0 (Kd.R k34 34 w28 w.heap.size (fun k_ => some k_ ≠ (v214 : Value).ownBlock) v222 t221) := ⟨h1_⟩
    have n2_ : Aside0 (w28.heap[gb208]? = some (.cells #[.int .i64 a0_0, .int .i64 a0_1, .slice A0_2 l0_2.length c0_2] 24 (0, 0))) := ⟨h2_⟩
    have n3_ : Aside0 (w28.heap[gb209]? = some (.cells #[.int .i64 a1_0, .int .i64 a1_1, .int .i64 a1_2] 26 (0, 0))) := ⟨h3_⟩
    have n4_ : Aside0 (w28.heap[gb225]? = some (.cells #[.int .i64 0, .int .i64 0, .slice none 0 0] 30 (0, 0))) := ⟨h4_⟩
    have n5_ : Aside0 (w.heap.size ≤ gb225) := ⟨h5_⟩
    have n6_ : Aside0 (w.heap.size ≤ gb225) := ⟨h6_⟩
    have n7_ : Aside0 (gb208 ≠ gb225) := ⟨h7_⟩
    have n8_ : Aside0 (gb225 ≠ gb208) := ⟨h8_⟩
    have n9_ : Aside0 (gb209 ≠ gb225) := ⟨h9_⟩
    have n10_ : Aside0 (gb225 ≠ gb209) := ⟨h10_⟩
    have n11_ : Aside0 (Below w.heap.size w w28) := ⟨h11_⟩
    clear BK208
    clear BK209
    clear HB
    clear h0_ h1_ h2_ h3_ h4_ h5_ h6_ h7_ h8_ h9_ h10_ h11_
    have HO215 := n0_
    have HO223 := n1_
    have BK208 := n2_
    have BK209 := n3_
    have BK225 := n4_
    have GW225 := n5_
    have GE225 := n6_
    have NB208_225 := n7_
    have NB225_208 := n8_
    have NB209_225 := n9_
    have NB225_209 := n10_
    have HB := n11_
    clear n0_ n1_ n2_ n3_ n4_ n5_ n6_ n7_ n8_ n9_ n10_ n11_
    have hHeld : w28.cell? ⟨gb208, 0, none⟩ = some (.int .i64 a0_0) ∧ w28.cell? ⟨gb208, 1, none⟩ = some (.int .i64 a0_1) ∧ w28.cell? ⟨gb208, 2, none⟩ = some (.slice A0_2 l0_2.length c0_2) ∧ w28.cell? ⟨gb209, 0, none⟩ = some (.int .i64 a1_0) ∧ w28.cell? ⟨gb209, 1, none⟩ = some (.int .i64 a1_1) ∧ w28.cell? ⟨gb209, 2, none⟩ = some (.int .i64 a1_2) := hS_
    obtain ⟨Ao31, co31, eo31⟩ := Kd.R_slice HO223.out
    (first | subst eo31 | (injection eo31 with f1_ f2_ f3_; have f4_ := f1_.symm; have f5_ := f3_.symm; clear f1_ f2_ f3_; subst f4_; subst f5_))
    refine norm_ (a' := ?_) ?_ ?_
    rotate_left
    · simp only [putAll, Act.put, List.setIfInBounds_toArray, List.set_cons_zero, List.set_cons_succ]
      rfl
    refine one_ (i := 9) (N := none) #[true, true, true, true, true, true, true, true, true, true, false] rfl rfl (one_of HT_.out (by kernel_rfl)) (by decide) (fun K hK => ?_)
    have hs29 : w28.cell? ⟨gb225, 0, none⟩ = some (.int .i64 0) := (blk_cell BK225.out 0).trans rfl
    have hfs29 := blk_frozen BK225.out 0
    have hns29_0 := NB208_225.out
    have hns29_1 := NB209_225.out
    have hms29_0 := NB225_208.out
    have hms29_1 := NB225_209.out
    have hs30 : w28.cell? ⟨gb225, 1, none⟩ = some (.int .i64 0) := (blk_cell BK225.out 1).trans rfl
    have hfs30 := blk_frozen BK225.out 1
    have hns30_0 := NB208_225.out
    have hns30_1 := NB209_225.out
    have hms30_0 := NB225_208.out
    have hms30_1 := NB225_209.out
    have hs32 : w28.cell? ⟨gb225, 2, none⟩ = some (.slice none 0 0) := (blk_cell BK225.out 2).trans rfl
    have hfs32 := blk_frozen BK225.out 2
    have hns32_0 := NB208_225.out
    have hns32_1 := NB209_225.out
    have hms32_0 := NB225_208.out
    have hms32_1 := NB225_209.out
    refine skip_ (w1 := ?_) (by rfl) rfl ?_ ?_
    rotate_left
    · go_simp
      rfl
    refine hK.out _ _ ⟨((cell_far (p := ⟨gb225, _, none⟩) NB208_225.out _).trans (((cell_far (p := ⟨gb225, _, none⟩) NB208_225.out _).trans (((cell_far (p := ⟨gb225, _, none⟩) NB208_225.out _).trans (hHeld.1)))))), ((cell_far (p := ⟨gb225, _, none⟩) NB208_225.out _).trans (((cell_far (p := ⟨gb225, _, none⟩) NB208_225.out _).trans (((cell_far (p := ⟨gb225, _, none⟩) NB208_225.out _).trans (hHeld.2.1)))))), ((cell_far (p := ⟨gb225, _, none⟩) NB208_225.out _).trans (((cell_far (p := ⟨gb225, _, none⟩) NB208_225.out _).trans (((cell_far (p := ⟨gb225, _, none⟩) NB208_225.out _).trans (hHeld.2.2.1)))))), ((cell_far (p := ⟨gb225, _, none⟩) NB209_225.out _).trans (((cell_far (p := ⟨gb225, _, none⟩) NB209_225.out _).trans (((cell_far (p := ⟨gb225, _, none⟩) NB209_225.out _).trans (hHeld.2.2.2.1)))))), ((cell_far (p := ⟨gb225, _, none⟩) NB209_225.out _).trans (((cell_far (p := ⟨gb225, _, none⟩) NB209_225.out _).trans (((cell_far (p := ⟨gb225, _, none⟩) NB209_225.out _).trans (hHeld.2.2.2.2.1)))))), ((cell_far (p := ⟨gb225, _, none⟩) NB209_225.out _).trans (((cell_far (p := ⟨gb225, _, none⟩) NB209_225.out _).trans (((cell_far (p := ⟨gb225, _, none⟩) NB209_225.out _).trans (hHeld.2.2.2.2.2))))))⟩ (fun hHeld => ?_)
    clear hK K
    refine pure_ (i := 10) (N := some 7) (v := ?_) (a' := ?_) #[true, true, true, true, true, true, true, true, true, true, true] rfl rfl (any_of HT_.out (by kernel_rfl)) (fun _ _ _ h => h) (Or.inl ⟨by rfl, ?_⟩) ?_ ?_
    rotate_left
    · intro w'
      go_simp
      with_reducible rfl
    rotate_left
    · simp only [Act.put, List.setIfInBounds_toArray, List.set_cons_zero, List.set_cons_succ, i64_w, i32_w]
      rfl
    refine done_ (done_of HT_.out (by kernel_rfl)) ?_
    have hnb33 := NB208_225.out
    have hnc33 := NB225_208.out
    have hcz34_0 : w28.cell? ⟨gb208, 0, none⟩ = some (.int .i64 a0_0) := (blk_cell BK208.out 0).trans rfl
    have hcz34_1 : w28.cell? ⟨gb208, 1, none⟩ = some (.int .i64 a0_1) := (blk_cell BK208.out 1).trans rfl
    have hcz34_2 : w28.cell? ⟨gb208, 2, none⟩ = some (.slice A0_2 l0_2.length c0_2) := (blk_cell BK208.out 2).trans rfl
    have hfz34_0 := blk_frozen BK208.out 0
    have hfz34_1 := blk_frozen BK208.out 1
    have hfz34_2 := blk_frozen BK208.out 2
    try go_wp2_with (first | ((with_reducible refine gate_callee (f := 9) rfl ?_); refine goesL_ (some 30) rfl rfl Try.func9 (by kernel_rfl) rfl #[.agg #[.int .i64 a0_0, .int .i64 a0_1, .slice A0_2 l0_2.length c0_2]] rfl (by (try simp only [List.map_toArray, List.map_cons, List.map_nil]); first | done | rfl | (simp only [List.length_drop, List.length_take]; rfl)) ?_; (with_reducible refine (laws_toPuzzle.calls k a0_0 a0_1 _ _ l0_2 t226 t227 t228 _ ?side1 ?side2 A13.out).mono ?_); (case side1 => exact Kd.C_below HR0_2.out (by repeat (first | (with_reducible first | exact HB.out | apply below_alloc | apply pw_below_drewN | apply below_drew1 | refine below_setA ?_ (by assumption)) | exact HB.out))); (case side2 => exact HC0_2.out); rintro e w35 ⟨v229, rfl, ho0, hb⟩; refine ⟨_, rfl, ?_⟩; have HO230 := As_ (Kd.R_lower (Kd.R_new' (Kd.R_new' ho0 (Kd.R_lt (by (with_reducible repeat (first | apply Kd.R_alloc | apply Kd.R_drewN | apply Kd.R_drew)); exact (Kd.R_mono (Kd.R_far (p := ⟨gb225, 2, none⟩) (Kd.R_far (p := ⟨gb225, 1, none⟩) (Kd.R_far (p := ⟨gb225, 0, none⟩) (Kd.R_types HO215.out BK225.out (by decide)) (fun _ hk => hk.2) (.int .i64 t219)) (fun _ hk => hk.2) (.int .i64 t220)) (fun _ hk => hk.2) (.slice Ao31 t221.length co31)) (fun _ h_ => h_.1))))) (Kd.R_lt (by (with_reducible repeat (first | apply Kd.R_alloc | apply Kd.R_drewN | apply Kd.R_drew)); exact (Kd.R_mono (Kd.R_far (p := ⟨gb225, 2, none⟩) (Kd.R_far (p := ⟨gb225, 1, none⟩) (Kd.R_far (p := ⟨gb225, 0, none⟩) (Kd.R_types HO223.out BK225.out (by decide)) (fun _ hk => hk.2) (.int .i64 t219)) (fun _ hk => hk.2) (.int .i64 t220)) (fun _ hk => hk.2) (.slice Ao31 t221.length co31)) (fun _ h_ => h_.1))))) (below_size (by repeat (first | (with_reducible first | exact HB.out | apply below_alloc | apply pw_below_drewN | apply below_drew1 | refine below_setA ?_ (by assumption)) | exact HB.out)))); replace HO215 := As_ (Kd.R_elder' (by (with_reducible repeat (first | apply Kd.R_alloc | apply Kd.R_drewN | apply Kd.R_drew)); exact (Kd.R_mono (Kd.R_far (p := ⟨gb225, 2, none⟩) (Kd.R_far (p := ⟨gb225, 1, none⟩) (Kd.R_far (p := ⟨gb225, 0, none⟩) (Kd.R_types HO215.out BK225.out (by decide)) (fun _ hk => hk.2) (.int .i64 t219)) (fun _ hk => hk.2) (.int .i64 t220)) (fun _ hk => hk.2) (.slice Ao31 t221.length co31)) (fun _ h_ => h_.1))) (Kd.R_base ho0) hb); replace HO223 := As_ (Kd.R_elder' (by (with_reducible repeat (first | apply Kd.R_alloc | apply Kd.R_drewN | apply Kd.R_drew)); exact (Kd.R_mono (Kd.R_far (p := ⟨gb225, 2, none⟩) (Kd.R_far (p := ⟨gb225, 1, none⟩) (Kd.R_far (p := ⟨gb225, 0, none⟩) (Kd.R_types HO223.out BK225.out (by decide)) (fun _ hk => hk.2) (.int .i64 t219)) (fun _ hk => hk.2) (.int .i64 t220)) (fun _ hk => hk.2) (.slice Ao31 t221.length co31)) (fun _ h_ => h_.1))) (Kd.R_base ho0) hb); replace BK208 := As_ (blk_below (g := gb208) (o := .cells #[.int .i64 a0_0, .int .i64 a0_1, .slice A0_2 l0_2.length c0_2] 24 (0, 0)) (by (with_reducible repeat (first | refine blk_drewN ?_ _ | refine blk_drew ?_ | refine blk_alloc ?_ _)); refine blk_far ?_ NB208_225.out _; refine blk_far ?_ NB208_225.out _; refine blk_far ?_ NB208_225.out _; (with_reducible repeat (first | refine blk_drewN ?_ _ | refine blk_drew ?_ | refine blk_alloc ?_ _)); exact BK208.out) hb); replace BK209 := As_ (blk_below (g := gb209) (o := .cells #[.int .i64 a1_0, .int .i64 a1_1, .int .i64 a1_2] 26 (0, 0)) (by (with_reducible repeat (first | refine blk_drewN ?_ _ | refine blk_drew ?_ | refine blk_alloc ?_ _)); refine blk_far ?_ NB209_225.out _; refine blk_far ?_ NB209_225.out _; refine blk_far ?_ NB209_225.out _; (with_reducible repeat (first | refine blk_drewN ?_ _ | refine blk_drew ?_ | refine blk_alloc ?_ _)); exact BK209.out) hb); replace BK225 := As_ (blk_below (g := gb225) (o := .cells #[.int .i64 t219, .int .i64 t220, .slice Ao31 t221.length co31] 30 (0, 0)) (by (with_reducible repeat (first | refine blk_drewN ?_ _ | refine blk_drew ?_ | refine blk_alloc ?_ _)); refine blk_put (cs := #[.int .i64 t219, .int .i64 t220, .slice none 0 0]) ?_ 2 _ rfl; refine blk_put (cs := #[.int .i64 t219, .int .i64 0, .slice none 0 0]) ?_ 1 _ rfl; refine blk_put (cs := #[.int .i64 0, .int .i64 0, .slice none 0 0]) ?_ 0 _ rfl; (with_reducible repeat (first | refine blk_drewN ?_ _ | refine blk_drew ?_ | refine blk_alloc ?_ _)); exact BK225.out) hb); replace HB := As_ (below_step (by repeat (first | (with_reducible first | exact HB.out | apply below_alloc | apply pw_below_drewN | apply below_drew1 | refine below_setA ?_ (by assumption)) | exact HB.out)) hb); (try clear hb); (try clear ho0)) | ((with_reducible refine gate_dst (N := 8) rfl ?_); refine box_event ?hg (N := 8) ?hd (cs := #[.int .i64 0, .int .i64 0, .slice none 0 0]) (t := 30) ?hr ?_; (case hd => rfl); (case hg => rfl); (case hr => first | (go_simp; done) | (go_simp; rfl)); intro gb231 hg w36 hbox hb; have BK231 := As_ (hbox); have GW231 := As_ ((by rw [hg]; exact (below_size (by repeat (first | (with_reducible first | exact HB.out | apply below_alloc | apply pw_below_drewN | apply below_drew1 | refine below_setA ?_ (by assumption)) | exact HB.out))) : w.heap.size ≤ gb231)); have GE231 := As_ ((by rw [hg]; exact (below_size (by repeat (first | (with_reducible first | exact HB.out | apply below_alloc | apply pw_below_drewN | apply below_drew1 | refine below_setA ?_ (by assumption)) | exact HB.out))) : w.heap.size ≤ gb231)); have NB208_231 := As_ (ne_lt hg BK208.out); have NB231_208 := As_ (ne_gt hg BK208.out); have NB209_231 := As_ (ne_lt hg BK209.out); have NB231_209 := As_ (ne_gt hg BK209.out); have NB225_231 := As_ (ne_lt hg BK225.out); have NB231_225 := As_ (ne_gt hg BK225.out); replace HO215 := As_ (Kd.R_below (by (with_reducible repeat (first | apply Kd.R_alloc | apply Kd.R_drewN | apply Kd.R_drew)); exact HO215.out) hb); replace HO223 := As_ (Kd.R_below (by (with_reducible repeat (first | apply Kd.R_alloc | apply Kd.R_drewN | apply Kd.R_drew)); exact HO223.out) hb); replace HO230 := As_ (Kd.R_below (by (with_reducible repeat (first | apply Kd.R_alloc | apply Kd.R_drewN | apply Kd.R_drew)); exact HO230.out) hb); replace BK208 := As_ (blk_b hb BK208.out); replace BK209 := As_ (blk_b hb BK209.out); replace BK225 := As_ (blk_b hb BK225.out); replace HB := As_ (below_step (by repeat (first | (with_reducible first | exact HB.out | apply below_alloc | apply pw_below_drewN | apply below_drew1 | refine below_setA ?_ (by assumption)) | exact HB.out)) hb); clear hb hbox hg; have hnb37 := NB231_208.out; have hnc37 := NB208_231.out; have hnb38 := NB231_209.out; have hnc38 := NB209_231.out; have hnb39 := NB231_225.out; have hnc39 := NB225_231.out; have hcz40_0 : w36.cell? ⟨gb231, 0, none⟩ = some (.int .i64 0) := (blk_cell BK231.out 0).trans rfl; have hcz40_1 : w36.cell? ⟨gb231, 1, none⟩ = some (.int .i64 0) := (blk_cell BK231.out 1).trans rfl; have hcz40_2 : w36.cell? ⟨gb231, 2, none⟩ = some (.slice none 0 0) := (blk_cell BK231.out 2).trans rfl; have hfz40_0 := blk_frozen BK231.out 0; have hfz40_1 := blk_frozen BK231.out 1; have hfz40_2 := blk_frozen BK231.out 2; obtain ⟨Ao41, co41, eo41⟩ := Kd.R_slice HO230.out; subst eo41))
    have n0_ : Aside0 (Kd.R k34 34 (((w36.setCell ⟨gb231, 0, none⟩ (.int .i64 t226)).setCell ⟨gb231, 1, none⟩ (.int .i64 t227)).setCell ⟨gb231, 2, none⟩ (.slice Ao41 t228.length co41)) w.heap.size (fun k_ => some k_ ≠ (.slice Ao31 t221.length co31 : Value).ownBlock ∧ some k_ ≠ (.slice Ao41 t228.length co41 : Value).ownBlock) v214 t213) := ⟨by (with_reducible repeat (first | apply Kd.R_alloc | apply Kd.R_drewN | apply Kd.R_drew)); exact Kd.R_mono (Kd.R_far (p := ⟨gb231, 2, none⟩) (Kd.R_far (p := ⟨gb231, 1, none⟩) (Kd.R_far (p := ⟨gb231, 0, none⟩) (Kd.R_types HO215.out BK231.out (by decide)) (fun _ hk => hk.2) (.int .i64 t226)) (fun _ hk => hk.2) (.int .i64 t227)) (fun _ hk => hk.2) (.slice Ao41 t228.length co41)) (fun _ hk => ⟨hk.1.1, hk.1.2⟩)⟩
    have n1_ : Aside0 (Kd.R k34 34 (((w36.setCell ⟨gb231, 0, none⟩ (.int .i64 t226)).setCell ⟨gb231, 1, none⟩ (.int .i64 t227)).setCell ⟨gb231, 2, none⟩ (.slice Ao41 t228.length co41)) w.heap.size (fun k_ => some k_ ≠ (v214 : Value).ownBlock ∧ some k_ ≠ (.slice Ao41 t228.length co41 : Value).ownBlock) (.slice Ao31 t221.length co31) t221) := ⟨by (with_reducible repeat (first | apply Kd.R_alloc | apply Kd.R_drewN | apply Kd.R_drew)); exact Kd.R_mono (Kd.R_far (p := ⟨gb231, 2, none⟩) (Kd.R_far (p := ⟨gb231, 1, none⟩) (Kd.R_far (p := ⟨gb231, 0, none⟩) (Kd.R_types HO223.out BK231.out (by decide)) (fun _ hk => hk.2) (.int .i64 t226)) (fun _ hk => hk.2) (.int .i64 t227)) (fun _ hk => hk.2) (.slice Ao41 t228.length co41)) (fun _ hk => ⟨hk.1.1, hk.1.2⟩)⟩
    have n2_ : Aside0 (Kd.R k34 34 (((w36.setCell ⟨gb231, 0, none⟩ (.int .i64 t226)).setCell ⟨gb231, 1, none⟩ (.int .i64 t227)).setCell ⟨gb231, 2, none⟩ (.slice Ao41 t228.length co41)) w.heap.size (fun k_ => some k_ ≠ (v214 : Value).ownBlock ∧ some k_ ≠ (.slice Ao31 t221.length co31 : Value).ownBlock) (.slice Ao41 t228.length co41) t228) := ⟨by (with_reducible repeat (first | apply Kd.R_alloc | apply Kd.R_drewN | apply Kd.R_drew)); exact Kd.R_mono (Kd.R_far (p := ⟨gb231, 2, none⟩) (Kd.R_far (p := ⟨gb231, 1, none⟩) (Kd.R_far (p := ⟨gb231, 0, none⟩) (Kd.R_types HO230.out BK231.out (by decide)) (fun _ hk => hk.2) (.int .i64 t226)) (fun _ hk => hk.2) (.int .i64 t227)) (fun _ hk => hk.2) (.slice Ao41 t228.length co41)) (fun _ hk => ⟨hk.1.1.2, hk.1.2⟩)⟩
    have n3_ : Aside0 ((((w36.setCell ⟨gb231, 0, none⟩ (.int .i64 t226)).setCell ⟨gb231, 1, none⟩ (.int .i64 t227)).setCell ⟨gb231, 2, none⟩ (.slice Ao41 t228.length co41)).heap[gb208]? = some (.cells #[.int .i64 a0_0, .int .i64 a0_1, .slice A0_2 l0_2.length c0_2] 24 (0, 0))) := ⟨by (with_reducible repeat (first | refine blk_drewN ?_ _ | refine blk_drew ?_ | refine blk_alloc ?_ _)); refine blk_far ?_ NB208_231.out _; refine blk_far ?_ NB208_231.out _; refine blk_far ?_ NB208_231.out _; (with_reducible repeat (first | refine blk_drewN ?_ _ | refine blk_drew ?_ | refine blk_alloc ?_ _)); exact BK208.out⟩
    have n4_ : Aside0 ((((w36.setCell ⟨gb231, 0, none⟩ (.int .i64 t226)).setCell ⟨gb231, 1, none⟩ (.int .i64 t227)).setCell ⟨gb231, 2, none⟩ (.slice Ao41 t228.length co41)).heap[gb209]? = some (.cells #[.int .i64 a1_0, .int .i64 a1_1, .int .i64 a1_2] 26 (0, 0))) := ⟨by (with_reducible repeat (first | refine blk_drewN ?_ _ | refine blk_drew ?_ | refine blk_alloc ?_ _)); refine blk_far ?_ NB209_231.out _; refine blk_far ?_ NB209_231.out _; refine blk_far ?_ NB209_231.out _; (with_reducible repeat (first | refine blk_drewN ?_ _ | refine blk_drew ?_ | refine blk_alloc ?_ _)); exact BK209.out⟩
    have n5_ : Aside0 ((((w36.setCell ⟨gb231, 0, none⟩ (.int .i64 t226)).setCell ⟨gb231, 1, none⟩ (.int .i64 t227)).setCell ⟨gb231, 2, none⟩ (.slice Ao41 t228.length co41)).heap[gb225]? = some (.cells #[.int .i64 t219, .int .i64 t220, .slice Ao31 t221.length co31] 30 (0, 0))) := ⟨by (with_reducible repeat (first | refine blk_drewN ?_ _ | refine blk_drew ?_ | refine blk_alloc ?_ _)); refine blk_far ?_ NB225_231.out _; refine blk_far ?_ NB225_231.out _; refine blk_far ?_ NB225_231.out _; (with_reducible repeat (first | refine blk_drewN ?_ _ | refine blk_drew ?_ | refine blk_alloc ?_ _)); exact BK225.out⟩
    have n6_ : Aside0 ((((w36.setCell ⟨gb231, 0, none⟩ (.int .i64 t226)).setCell ⟨gb231, 1, none⟩ (.int .i64 t227)).setCell ⟨gb231, 2, none⟩ (.slice Ao41 t228.length co41)).heap[gb231]? = some (.cells #[.int .i64 t226, .int .i64 t227, .slice Ao41 t228.length co41] 30 (0, 0))) := ⟨by (with_reducible repeat (first | refine blk_drewN ?_ _ | refine blk_drew ?_ | refine blk_alloc ?_ _)); refine blk_put (cs := #[.int .i64 t226, .int .i64 t227, .slice none 0 0]) ?_ 2 _ rfl; refine blk_put (cs := #[.int .i64 t226, .int .i64 0, .slice none 0 0]) ?_ 1 _ rfl; refine blk_put (cs := #[.int .i64 0, .int .i64 0, .slice none 0 0]) ?_ 0 _ rfl; (with_reducible repeat (first | refine blk_drewN ?_ _ | refine blk_drew ?_ | refine blk_alloc ?_ _)); exact BK231.out⟩
    have n7_ : Aside0 (Below w.heap.size w (((w36.setCell ⟨gb231, 0, none⟩ (.int .i64 t226)).setCell ⟨gb231, 1, none⟩ (.int .i64 t227)).setCell ⟨gb231, 2, none⟩ (.slice Ao41 t228.length co41))) := ⟨by repeat (first | (with_reducible first | exact HB.out | apply below_alloc | apply pw_below_drewN | apply below_drew1 | refine below_setA ?_ (by assumption)) | exact HB.out)⟩
    (try clear HO215)
    (try clear HO223)
    (try clear HO230)
    (try clear BK208)
    (try clear BK209)
    (try clear BK225)
    (try clear BK231)
    (try clear HB)
    generalize (((w36.setCell ⟨gb231, 0, none⟩ (.int .i64 t226)).setCell ⟨gb231, 1, none⟩ (.int .i64 t227)).setCell ⟨gb231, 2, none⟩ (.slice Ao41 t228.length co41)) = w42 at n0_ n1_ n2_ n3_ n4_ n5_ n6_ n7_ ⊢
    have HO215 := n0_
    have HO223 := n1_
    have HO230 := n2_
    have BK208 := n3_
    have BK209 := n4_
    have BK225 := n5_
    have BK231 := n6_
    have HB := n7_
    clear n0_ n1_ n2_ n3_ n4_ n5_ n6_ n7_
    replace HO215 := As_ (Kd.R_drew HO215.out)
    replace HO223 := As_ (Kd.R_drew HO223.out)
    replace HO230 := As_ (Kd.R_drew HO230.out)
    replace BK208 := As_ (blk_drew BK208.out)
    replace BK209 := As_ (blk_drew BK209.out)
    replace BK225 := As_ (blk_drew BK225.out)
    replace BK231 := As_ (blk_drew BK231.out)
    replace HB := As_ (below_drew1 HB.out)
    refine start_ (n := 10) (S := fun w' => w'.cell? ⟨gb231, 0, none⟩ = some (.int .i64 t226) ∧ w'.cell? ⟨gb231, 1, none⟩ = some (.int .i64 t227) ∧ w'.cell? ⟨gb231, 2, none⟩ = some (.slice Ao41 t228.length co41) ∧ w'.cell? ⟨gb209, 0, none⟩ = some (.int .i64 a1_0) ∧ w'.cell? ⟨gb209, 1, none⟩ = some (.int .i64 a1_1) ∧ w'.cell? ⟨gb209, 2, none⟩ = some (.int .i64 a1_2)) (ds := []) #[false, false, false, false, false, false, false, false, false, false] (by kernel_rfl) rfl rfl ⟨(blk_cell BK231.out 0).trans rfl, (blk_cell BK231.out 1).trans rfl, (blk_cell BK231.out 2).trans rfl, (blk_cell BK209.out 0).trans rfl, (blk_cell BK209.out 1).trans rfl, (blk_cell BK209.out 2).trans rfl⟩ (fun hHeld => ?_); refine with_tabW laws_FnExactAddClue.tab7 laws_FnExactAddClue.bits7 (fun HT_ HW_ => ?_)
    generalize w42.drew = w43 at HO215 HO223 HO230 BK208 BK209 BK225 BK231 HB hHeld ⊢
    refine take_ (i := 0) (N := some 32) (v := ?_) (a' := ?_) #[true, false, false, false, false, false, false, false, false, false] rfl rfl (take_ofW HT_.out HW_.out (by kernel_rfl)) (fun _ _ _ h => h) (Or.inl ⟨by rfl, ?_⟩) hHeld ?_ ?_
    rotate_left
    · rintro w' ⟨s0, s1, s2, s3, s4, s5⟩
      go_simp
      with_reducible rfl
    rotate_left
    · simp only [Act.put, List.setIfInBounds_toArray, List.set_cons_zero, List.set_cons_succ, i64_w, i32_w]
      rfl
    refine take_ (i := 1) (N := some 33) (v := ?_) (a' := ?_) #[true, true, false, false, false, false, false, false, false, false] rfl rfl (take_ofW HT_.out HW_.out (by kernel_rfl)) (fun _ _ _ h => h) (Or.inl ⟨by rfl, ?_⟩) hHeld ?_ ?_
    rotate_left
    · rintro w' ⟨s0, s1, s2, s3, s4, s5⟩
      go_simp
      with_reducible rfl
    rotate_left
    · simp only [Act.put, List.setIfInBounds_toArray, List.set_cons_zero, List.set_cons_succ, i64_w, i32_w]
      rfl
    refine join_ (σ := Value × Nat) 2 #[true, true, true, true, true, true, true, true, false, false] (fun s_ => [(34, .agg #[.int .i64 t232, .int .i64 t233, .int .i64 t234]), (35, .tuple #[.agg #[.int .i64 t235, .int .i64 t236, s_.1], .bool t240]), (9, .pointer (some ⟨s_.2, 0, none⟩)), (31, .tuple #[.agg #[.int .i64 t235, .int .i64 t236, s_.1], .bool t240]), (36, .agg #[.int .i64 t235, .int .i64 t236, s_.1]), (37, .bool t240)]) (fun s_ w' => (w'.cell? ⟨gb231, 0, none⟩ = some (.int .i64 t226) ∧ w'.cell? ⟨gb231, 1, none⟩ = some (.int .i64 t227) ∧ w'.cell? ⟨gb231, 2, none⟩ = some (.slice Ao41 t228.length co41) ∧ w'.cell? ⟨gb209, 0, none⟩ = some (.int .i64 a1_0) ∧ w'.cell? ⟨gb209, 1, none⟩ = some (.int .i64 a1_1) ∧ w'.cell? ⟨gb209, 2, none⟩ = some (.int .i64 a1_2)) ∧ (Kd.R k34 34 w' w.heap.size (fun k_ => some k_ ≠ (.slice Ao31 t221.length co31 : Value).ownBlock ∧ some k_ ≠ (.slice Ao41 t228.length co41 : Value).ownBlock ∧ some k_ ≠ (s_.1 : Value).ownBlock) v214 t213) ∧ (Kd.R k34 34 w' w.heap.size (fun k_ => some k_ ≠ (v214 : Value).ownBlock ∧ some k_ ≠ (.slice Ao41 t228.length co41 : Value).ownBlock ∧ some k_ ≠ (s_.1 : Value).ownBlock) (.slice Ao31 t221.length co31) t221) ∧ (Kd.R k34 34 w' w.heap.size (fun k_ => some k_ ≠ (v214 : Value).ownBlock ∧ some k_ ≠ (.slice Ao31 t221.length co31 : Value).ownBlock ∧ some k_ ≠ (s_.1 : Value).ownBlock) (.slice Ao41 t228.length co41) t228) ∧ (Kd.R k34 34 w' w.heap.size (fun k_ => some k_ ≠ (v214 : Value).ownBlock ∧ some k_ ≠ (.slice Ao31 t221.length co31 : Value).ownBlock ∧ some k_ ≠ (.slice Ao41 t228.length co41 : Value).ownBlock) s_.1 t237) ∧ (w'.heap[gb208]? = some (.cells #[.int .i64 a0_0, .int .i64 a0_1, .slice A0_2 l0_2.length c0_2] 24 (0, 0))) ∧ (w'.heap[gb209]? = some (.cells #[.int .i64 a1_0, .int .i64 a1_1, .int .i64 a1_2] 26 (0, 0))) ∧ (w'.heap[gb225]? = some (.cells #[.int .i64 t219, .int .i64 t220, .slice Ao31 t221.length co31] 30 (0, 0))) ∧ (w'.heap[gb231]? = some (.cells #[.int .i64 t226, .int .i64 t227, .slice Ao41 t228.length co41] 30 (0, 0))) ∧ (w'.heap[s_.2]? = some (.cells #[.int .i64 0, .int .i64 0, .slice none 0 0] 30 (0, 0))) ∧ (w.heap.size ≤ s_.2) ∧ (w.heap.size ≤ s_.2) ∧ (gb208 ≠ s_.2) ∧ (s_.2 ≠ gb208) ∧ (gb209 ≠ s_.2) ∧ (s_.2 ≠ gb209) ∧ (gb225 ≠ s_.2) ∧ (s_.2 ≠ gb225) ∧ (gb231 ≠ s_.2) ∧ (s_.2 ≠ gb231) ∧ (Below w.heap.size w w')) ?_ ?_
    rotate_left
    · intro hCont
      refine two_ (i := 2) (j := 7) (Ni := some 34) (Nj := some 9) #[true, true, true, false, false, false, false, false, false, false] #[true, true, false, false, false, false, false, true, false, false] rfl rfl rfl rfl (two_of HT_.out (by kernel_rfl)) (by decide) (by decide) (fun K hK => ?_) (fun K hK => ?_)
      · skip
        refine goes_ Try.func10 (by kernel_rfl) rfl #[.agg #[.int .i64 a1_0, .int .i64 a1_1, .int .i64 a1_2]] (by rfl) rfl rfl (by (try simp only [List.map_toArray, List.map_cons, List.map_nil]); first | done | rfl | (simp only [List.length_drop, List.length_take]; rfl)) ?_
        with_reducible refine (laws_toClue.calls a1_0 a1_1 a1_2 t232 t233 t234 _ A14.out).mono ?_
        rintro e w44 ⟨rfl, hb⟩
        refine ⟨_, rfl, ?_⟩
        replace HO215 := As_ (Kd.R_below (by (with_reducible repeat (first | apply Kd.R_alloc | apply Kd.R_drewN | apply Kd.R_drew)); exact HO215.out) hb)
        replace HO223 := As_ (Kd.R_below (by (with_reducible repeat (first | apply Kd.R_alloc | apply Kd.R_drewN | apply Kd.R_drew)); exact HO223.out) hb)
        replace HO230 := As_ (Kd.R_below (by (with_reducible repeat (first | apply Kd.R_alloc | apply Kd.R_drewN | apply Kd.R_drew)); exact HO230.out) hb)
        replace BK208 := As_ (blk_b hb BK208.out)
        replace BK209 := As_ (blk_b hb BK209.out)
        replace BK225 := As_ (blk_b hb BK225.out)
        replace BK231 := As_ (blk_b hb BK231.out)
        replace HB := As_ (below_step (by repeat (first | (with_reducible first | exact HB.out | apply below_alloc | apply pw_below_drewN | apply below_drew1 | refine below_setA ?_ (by assumption)) | exact HB.out)) hb)
        (try clear hb)
        (try clear hb2)
        (try clear hk)
        (try clear hi)
        refine hK.out _ _ ⟨(blk_cell BK231.out 0).trans rfl, (blk_cell BK231.out 1).trans rfl, (blk_cell BK231.out 2).trans rfl, (blk_cell BK209.out 0).trans rfl, (blk_cell BK209.out 1).trans rfl, (blk_cell BK209.out 2).trans rfl⟩ (fun hHeld => ?_)
        clear hK K
        refine norm_ (a' := ?_) ?_ ?_
        rotate_left
        · show Act.put _ (some 34) _ = _
          simp only [Act.put, List.setIfInBounds_toArray, List.set_cons_zero, List.set_cons_succ, i64_w, i32_w]
          rfl
        refine two_ (i := 3) (j := 7) (Ni := some 35) (Nj := some 9) #[true, true, true, true, false, false, false, false, false, false] #[true, true, true, false, false, false, false, true, false, false] rfl rfl rfl rfl (two_of HT_.out (by kernel_rfl)) (by decide) (by decide) (fun K hK => ?_) (fun K hK => ?_)
        · skip
          refine goes_ Try.func11 (by kernel_rfl) rfl #[.agg #[.int .i64 t226, .int .i64 t227, .slice Ao41 t228.length co41], .agg #[.int .i64 t232, .int .i64 t233, .int .i64 t234]] (by rfl) rfl rfl (by (try simp only [List.map_toArray, List.map_cons, List.map_nil]); first | done | rfl | (simp only [List.length_drop, List.length_take]; rfl)) ?_
          with_reducible refine (impl_AddClue.calls t226 t227 _ _ t228 t232 t233 t234 t235 t236 t237 t240 _ ?side1 ?side2 A15.out).mono ?_
          (case side1 => repeat (first | exact (Kd.R_reads' HO230.out).2.2 | (with_reducible refine Kd.C_alloc ?_ _) | (with_reducible refine Kd.C_drewN ?_ _) | (with_reducible refine Kd.C_drew ?_)))
          (case side2 => exact (Kd.R_reads' HO230.out).2.1)
          rintro e w45 ⟨v238, rfl, ho0, hb⟩
          refine ⟨_, rfl, ?_⟩
          have HO239 := As_ (Kd.R_lower (Kd.R_new' (Kd.R_new' (Kd.R_new' ho0 (Kd.R_lt (by (with_reducible repeat (first | apply Kd.R_alloc | apply Kd.R_drewN | apply Kd.R_drew)); exact HO215.out))) (Kd.R_lt (by (with_reducible repeat (first | apply Kd.R_alloc | apply Kd.R_drewN | apply Kd.R_drew)); exact HO223.out))) (Kd.R_lt (by (with_reducible repeat (first | apply Kd.R_alloc | apply Kd.R_drewN | apply Kd.R_drew)); exact HO230.out))) (below_size (by repeat (first | (with_reducible first | exact HB.out | apply below_alloc | apply pw_below_drewN | apply below_drew1 | refine below_setA ?_ (by assumption)) | exact HB.out))))
          replace HO215 := As_ (Kd.R_elder' (by (with_reducible repeat (first | apply Kd.R_alloc | apply Kd.R_drewN | apply Kd.R_drew)); exact HO215.out) (Kd.R_base ho0) hb)
          replace HO223 := As_ (Kd.R_elder' (by (with_reducible repeat (first | apply Kd.R_alloc | apply Kd.R_drewN | apply Kd.R_drew)); exact HO223.out) (Kd.R_base ho0) hb)
          replace HO230 := As_ (Kd.R_elder' (by (with_reducible repeat (first | apply Kd.R_alloc | apply Kd.R_drewN | apply Kd.R_drew)); exact HO230.out) (Kd.R_base ho0) hb)
          replace BK208 := As_ (blk_b hb BK208.out)
          replace BK209 := As_ (blk_b hb BK209.out)
          replace BK225 := As_ (blk_b hb BK225.out)
          replace BK231 := As_ (blk_b hb BK231.out)
          replace HB := As_ (below_step (by repeat (first | (with_reducible first | exact HB.out | apply below_alloc | apply pw_below_drewN | apply below_drew1 | refine below_setA ?_ (by assumption)) | exact HB.out)) hb)
          (try clear hb)
          (try clear hb2)
          (try clear hk)
          (try clear hi)
          (try clear ho0)
          refine hK.out _ _ ⟨(blk_cell BK231.out 0).trans rfl, (blk_cell BK231.out 1).trans rfl, (blk_cell BK231.out 2).trans rfl, (blk_cell BK209.out 0).trans rfl, (blk_cell BK209.out 1).trans rfl, (blk_cell BK209.out 2).trans rfl⟩ (fun hHeld => ?_)
          clear hK K
          refine norm_ (a' := ?_) ?_ ?_
          rotate_left
          · show Act.put _ (some 35) _ = _
            simp only [Act.put, List.setIfInBounds_toArray, List.set_cons_zero, List.set_cons_succ, i64_w, i32_w]
            rfl
          refine pure_ (i := 4) (N := some 31) (v := ?_) (a' := ?_) #[true, true, true, true, true, false, false, false, false, false] rfl rfl (any_of HT_.out (by kernel_rfl)) (fun _ _ _ h => h) (Or.inl ⟨by rfl, ?_⟩) ?_ ?_
          rotate_left
          · intro w'
            go_simp
            with_reducible rfl
          rotate_left
          · simp only [Act.put, List.setIfInBounds_toArray, List.set_cons_zero, List.set_cons_succ, i64_w, i32_w]
            rfl
          refine pure_ (i := 5) (N := some 36) (v := ?_) (a' := ?_) #[true, true, true, true, true, true, false, false, false, false] rfl rfl (any_of HT_.out (by kernel_rfl)) (fun _ _ _ h => h) (Or.inl ⟨by rfl, ?_⟩) ?_ ?_
          rotate_left
          · intro w'
            go_simp
            with_reducible rfl
          rotate_left
          · simp only [Act.put, List.setIfInBounds_toArray, List.set_cons_zero, List.set_cons_succ, i64_w, i32_w]
            rfl
          refine pure_ (i := 6) (N := some 37) (v := ?_) (a' := ?_) #[true, true, true, true, true, true, true, false, false, false] rfl rfl (any_of HT_.out (by kernel_rfl)) (fun _ _ _ h => h) (Or.inl ⟨by rfl, ?_⟩) ?_ ?_
          rotate_left
          · intro w'
            go_simp
            with_reducible rfl
          rotate_left
          · simp only [Act.put, List.setIfInBounds_toArray, List.set_cons_zero, List.set_cons_succ, i64_w, i32_w]
            rfl
          refine one_ (i := 7) (N := some 9) #[true, true, true, true, true, true, true, true, false, false] rfl rfl (one_of HT_.out (by kernel_rfl)) (by decide) (fun K hK => ?_)
          refine box_step ?hg (N := 9) ?hd (cs := #[.int .i64 0, .int .i64 0, .slice none 0 0]) (t := 30) ?hr ?_; (case hd => rfl); (case hg => rfl); (case hr => first | (go_simp; done) | (go_simp; rfl))
          intro gb241 hg w46 hbox hb
          have BK241 := As_ (hbox)
          have GW241 := As_ ((by rw [hg]; exact (below_size (by repeat (first | (with_reducible first | exact HB.out | apply below_alloc | apply pw_below_drewN | apply below_drew1 | refine below_setA ?_ (by assumption)) | exact HB.out))) : w.heap.size ≤ gb241))
          have GE241 := As_ ((by rw [hg]; exact (below_size (by repeat (first | (with_reducible first | exact HB.out | apply below_alloc | apply pw_below_drewN | apply below_drew1 | refine below_setA ?_ (by assumption)) | exact HB.out))) : w.heap.size ≤ gb241))
          have NB208_241 := As_ (ne_lt hg BK208.out)
          have NB241_208 := As_ (ne_gt hg BK208.out)
          have NB209_241 := As_ (ne_lt hg BK209.out)
          have NB241_209 := As_ (ne_gt hg BK209.out)
          have NB225_241 := As_ (ne_lt hg BK225.out)
          have NB241_225 := As_ (ne_gt hg BK225.out)
          have NB231_241 := As_ (ne_lt hg BK231.out)
          have NB241_231 := As_ (ne_gt hg BK231.out)
          replace HO215 := As_ (Kd.R_below (by (with_reducible repeat (first | apply Kd.R_alloc | apply Kd.R_drewN | apply Kd.R_drew)); exact HO215.out) hb)
          replace HO223 := As_ (Kd.R_below (by (with_reducible repeat (first | apply Kd.R_alloc | apply Kd.R_drewN | apply Kd.R_drew)); exact HO223.out) hb)
          replace HO230 := As_ (Kd.R_below (by (with_reducible repeat (first | apply Kd.R_alloc | apply Kd.R_drewN | apply Kd.R_drew)); exact HO230.out) hb)
          replace HO239 := As_ (Kd.R_below (by (with_reducible repeat (first | apply Kd.R_alloc | apply Kd.R_drewN | apply Kd.R_drew)); exact HO239.out) hb)
          replace BK208 := As_ (blk_b hb BK208.out)
          replace BK209 := As_ (blk_b hb BK209.out)
          replace BK225 := As_ (blk_b hb BK225.out)
          replace BK231 := As_ (blk_b hb BK231.out)
          replace HB := As_ (below_step (by repeat (first | (with_reducible first | exact HB.out | apply below_alloc | apply pw_below_drewN | apply below_drew1 | refine below_setA ?_ (by assumption)) | exact HB.out)) hb)
          clear hb hbox hg
          refine hK.out _ _ ⟨(blk_cell BK231.out 0).trans rfl, (blk_cell BK231.out 1).trans rfl, (blk_cell BK231.out 2).trans rfl, (blk_cell BK209.out 0).trans rfl, (blk_cell BK209.out 1).trans rfl, (blk_cell BK209.out 2).trans rfl⟩ (fun hHeld => ?_)
          clear hK K
          refine norm_ (a' := ?_) ?_ ?_
          rotate_left
          · show Act.put _ (some 9) _ = _
            simp only [Act.put, List.setIfInBounds_toArray, List.set_cons_zero, List.set_cons_succ, i64_w, i32_w]
            rfl
          exact norm_ (by simp only [putAll, Act.put, List.setIfInBounds_toArray, List.set_cons_zero, List.set_cons_succ]) (hCont (v238, gb241) _ ⟨hHeld, (by (with_reducible repeat (first | apply Kd.R_alloc | apply Kd.R_drewN | apply Kd.R_drew)); exact Kd.R_mono HO215.out (fun _ hk => ⟨hk.1.1, ⟨hk.1.2, hk.2⟩⟩)), (by (with_reducible repeat (first | apply Kd.R_alloc | apply Kd.R_drewN | apply Kd.R_drew)); exact Kd.R_mono HO223.out (fun _ hk => ⟨hk.1.1, ⟨hk.1.2, hk.2⟩⟩)), (by (with_reducible repeat (first | apply Kd.R_alloc | apply Kd.R_drewN | apply Kd.R_drew)); exact Kd.R_mono HO230.out (fun _ hk => ⟨hk.1.1, ⟨hk.1.2, hk.2⟩⟩)), (by (with_reducible repeat (first | apply Kd.R_alloc | apply Kd.R_drewN | apply Kd.R_drew)); exact Kd.R_mono HO239.out (fun _ hk => ⟨hk.1.1.2, ⟨hk.1.2, hk.2⟩⟩)), BK208.out, BK209.out, BK225.out, BK231.out, BK241.out, GW241.out, GE241.out, NB208_241.out, NB241_208.out, NB209_241.out, NB241_209.out, NB225_241.out, NB241_225.out, NB231_241.out, NB241_231.out, (by repeat (first | (with_reducible first | exact HB.out | apply below_alloc | apply pw_below_drewN | apply below_drew1 | refine below_setA ?_ (by assumption)) | exact HB.out))⟩)
        · skip
          refine box_step ?hg (N := 9) ?hd (cs := #[.int .i64 0, .int .i64 0, .slice none 0 0]) (t := 30) ?hr ?_; (case hd => rfl); (case hg => rfl); (case hr => first | (go_simp; done) | (go_simp; rfl))
          intro gb241 hg w45 hbox hb
          have BK241 := As_ (hbox)
          have GW241 := As_ ((by rw [hg]; exact (below_size (by repeat (first | (with_reducible first | exact HB.out | apply below_alloc | apply pw_below_drewN | apply below_drew1 | refine below_setA ?_ (by assumption)) | exact HB.out))) : w.heap.size ≤ gb241))
          have GE241 := As_ ((by rw [hg]; exact (below_size (by repeat (first | (with_reducible first | exact HB.out | apply below_alloc | apply pw_below_drewN | apply below_drew1 | refine below_setA ?_ (by assumption)) | exact HB.out))) : w.heap.size ≤ gb241))
          have NB208_241 := As_ (ne_lt hg BK208.out)
          have NB241_208 := As_ (ne_gt hg BK208.out)
          have NB209_241 := As_ (ne_lt hg BK209.out)
          have NB241_209 := As_ (ne_gt hg BK209.out)
          have NB225_241 := As_ (ne_lt hg BK225.out)
          have NB241_225 := As_ (ne_gt hg BK225.out)
          have NB231_241 := As_ (ne_lt hg BK231.out)
          have NB241_231 := As_ (ne_gt hg BK231.out)
          replace HO215 := As_ (Kd.R_below (by (with_reducible repeat (first | apply Kd.R_alloc | apply Kd.R_drewN | apply Kd.R_drew)); exact HO215.out) hb)
          replace HO223 := As_ (Kd.R_below (by (with_reducible repeat (first | apply Kd.R_alloc | apply Kd.R_drewN | apply Kd.R_drew)); exact HO223.out) hb)
          replace HO230 := As_ (Kd.R_below (by (with_reducible repeat (first | apply Kd.R_alloc | apply Kd.R_drewN | apply Kd.R_drew)); exact HO230.out) hb)
          replace BK208 := As_ (blk_b hb BK208.out)
          replace BK209 := As_ (blk_b hb BK209.out)
          replace BK225 := As_ (blk_b hb BK225.out)
          replace BK231 := As_ (blk_b hb BK231.out)
          replace HB := As_ (below_step (by repeat (first | (with_reducible first | exact HB.out | apply below_alloc | apply pw_below_drewN | apply below_drew1 | refine below_setA ?_ (by assumption)) | exact HB.out)) hb)
          clear hb hbox hg
          refine hK.out _ _ ⟨(blk_cell BK231.out 0).trans rfl, (blk_cell BK231.out 1).trans rfl, (blk_cell BK231.out 2).trans rfl, (blk_cell BK209.out 0).trans rfl, (blk_cell BK209.out 1).trans rfl, (blk_cell BK209.out 2).trans rfl⟩ (fun hHeld => ?_)
          clear hK K
          refine norm_ (a' := ?_) ?_ ?_
          rotate_left
          · show Act.put _ (some 9) _ = _
            simp only [Act.put, List.setIfInBounds_toArray, List.set_cons_zero, List.set_cons_succ, i64_w, i32_w]
            rfl
          refine one_ (i := 3) (N := some 35) #[true, true, true, true, false, false, false, true, false, false] rfl rfl (one_of HT_.out (by kernel_rfl)) (by decide) (fun K hK => ?_)
          refine goes_ Try.func11 (by kernel_rfl) rfl #[.agg #[.int .i64 t226, .int .i64 t227, .slice Ao41 t228.length co41], .agg #[.int .i64 t232, .int .i64 t233, .int .i64 t234]] (by rfl) rfl rfl (by (try simp only [List.map_toArray, List.map_cons, List.map_nil]); first | done | rfl | (simp only [List.length_drop, List.length_take]; rfl)) ?_
          with_reducible refine (impl_AddClue.calls t226 t227 _ _ t228 t232 t233 t234 t235 t236 t237 t240 _ ?side1 ?side2 A15.out).mono ?_
          (case side1 => repeat (first | exact (Kd.R_reads' HO230.out).2.2 | (with_reducible refine Kd.C_alloc ?_ _) | (with_reducible refine Kd.C_drewN ?_ _) | (with_reducible refine Kd.C_drew ?_)))
          (case side2 => exact (Kd.R_reads' HO230.out).2.1)
          rintro e w46 ⟨v238, rfl, ho0, hb⟩
          refine ⟨_, rfl, ?_⟩
          have HO239 := As_ (Kd.R_lower (Kd.R_new' (Kd.R_new' (Kd.R_new' ho0 (Kd.R_lt (by (with_reducible repeat (first | apply Kd.R_alloc | apply Kd.R_drewN | apply Kd.R_drew)); exact HO215.out))) (Kd.R_lt (by (with_reducible repeat (first | apply Kd.R_alloc | apply Kd.R_drewN | apply Kd.R_drew)); exact HO223.out))) (Kd.R_lt (by (with_reducible repeat (first | apply Kd.R_alloc | apply Kd.R_drewN | apply Kd.R_drew)); exact HO230.out))) (below_size (by repeat (first | (with_reducible first | exact HB.out | apply below_alloc | apply pw_below_drewN | apply below_drew1 | refine below_setA ?_ (by assumption)) | exact HB.out))))
          replace HO215 := As_ (Kd.R_elder' (by (with_reducible repeat (first | apply Kd.R_alloc | apply Kd.R_drewN | apply Kd.R_drew)); exact HO215.out) (Kd.R_base ho0) hb)
          replace HO223 := As_ (Kd.R_elder' (by (with_reducible repeat (first | apply Kd.R_alloc | apply Kd.R_drewN | apply Kd.R_drew)); exact HO223.out) (Kd.R_base ho0) hb)
          replace HO230 := As_ (Kd.R_elder' (by (with_reducible repeat (first | apply Kd.R_alloc | apply Kd.R_drewN | apply Kd.R_drew)); exact HO230.out) (Kd.R_base ho0) hb)
          replace BK208 := As_ (blk_b hb BK208.out)
          replace BK209 := As_ (blk_b hb BK209.out)
          replace BK225 := As_ (blk_b hb BK225.out)
          replace BK231 := As_ (blk_b hb BK231.out)
          replace BK241 := As_ (blk_b hb BK241.out)
          replace HB := As_ (below_step (by repeat (first | (with_reducible first | exact HB.out | apply below_alloc | apply pw_below_drewN | apply below_drew1 | refine below_setA ?_ (by assumption)) | exact HB.out)) hb)
          (try clear hb)
          (try clear hb2)
          (try clear hk)
          (try clear hi)
          (try clear ho0)
          refine hK.out _ _ ⟨(blk_cell BK231.out 0).trans rfl, (blk_cell BK231.out 1).trans rfl, (blk_cell BK231.out 2).trans rfl, (blk_cell BK209.out 0).trans rfl, (blk_cell BK209.out 1).trans rfl, (blk_cell BK209.out 2).trans rfl⟩ (fun hHeld => ?_)
          clear hK K
          refine norm_ (a' := ?_) ?_ ?_
          rotate_left
          · show Act.put _ (some 35) _ = _
            simp only [Act.put, List.setIfInBounds_toArray, List.set_cons_zero, List.set_cons_succ, i64_w, i32_w]
            rfl
          refine pure_ (i := 4) (N := some 31) (v := ?_) (a' := ?_) #[true, true, true, true, true, false, false, true, false, false] rfl rfl (any_of HT_.out (by kernel_rfl)) (fun _ _ _ h => h) (Or.inl ⟨by rfl, ?_⟩) ?_ ?_
          rotate_left
          · intro w'
            go_simp
            with_reducible rfl
          rotate_left
          · simp only [Act.put, List.setIfInBounds_toArray, List.set_cons_zero, List.set_cons_succ, i64_w, i32_w]
            rfl
          refine pure_ (i := 5) (N := some 36) (v := ?_) (a' := ?_) #[true, true, true, true, true, true, false, true, false, false] rfl rfl (any_of HT_.out (by kernel_rfl)) (fun _ _ _ h => h) (Or.inl ⟨by rfl, ?_⟩) ?_ ?_
          rotate_left
          · intro w'
            go_simp
            with_reducible rfl
          rotate_left
          · simp only [Act.put, List.setIfInBounds_toArray, List.set_cons_zero, List.set_cons_succ, i64_w, i32_w]
            rfl
          refine pure_ (i := 6) (N := some 37) (v := ?_) (a' := ?_) #[true, true, true, true, true, true, true, true, false, false] rfl rfl (any_of HT_.out (by kernel_rfl)) (fun _ _ _ h => h) (Or.inl ⟨by rfl, ?_⟩) ?_ ?_
          rotate_left
          · intro w'
            go_simp
            with_reducible rfl
          rotate_left
          · simp only [Act.put, List.setIfInBounds_toArray, List.set_cons_zero, List.set_cons_succ, i64_w, i32_w]
            rfl
          exact norm_ (by simp only [putAll, Act.put, List.setIfInBounds_toArray, List.set_cons_zero, List.set_cons_succ]) (hCont (v238, gb241) _ ⟨hHeld, (by (with_reducible repeat (first | apply Kd.R_alloc | apply Kd.R_drewN | apply Kd.R_drew)); exact Kd.R_mono HO215.out (fun _ hk => ⟨hk.1.1, ⟨hk.1.2, hk.2⟩⟩)), (by (with_reducible repeat (first | apply Kd.R_alloc | apply Kd.R_drewN | apply Kd.R_drew)); exact Kd.R_mono HO223.out (fun _ hk => ⟨hk.1.1, ⟨hk.1.2, hk.2⟩⟩)), (by (with_reducible repeat (first | apply Kd.R_alloc | apply Kd.R_drewN | apply Kd.R_drew)); exact Kd.R_mono HO230.out (fun _ hk => ⟨hk.1.1, ⟨hk.1.2, hk.2⟩⟩)), (by (with_reducible repeat (first | apply Kd.R_alloc | apply Kd.R_drewN | apply Kd.R_drew)); exact Kd.R_mono HO239.out (fun _ hk => ⟨hk.1.1.2, ⟨hk.1.2, hk.2⟩⟩)), BK208.out, BK209.out, BK225.out, BK231.out, BK241.out, GW241.out, GE241.out, NB208_241.out, NB241_208.out, NB209_241.out, NB241_209.out, NB225_241.out, NB241_225.out, NB231_241.out, NB241_231.out, (by repeat (first | (with_reducible first | exact HB.out | apply below_alloc | apply pw_below_drewN | apply below_drew1 | refine below_setA ?_ (by assumption)) | exact HB.out))⟩)
      · skip
        refine box_step ?hg (N := 9) ?hd (cs := #[.int .i64 0, .int .i64 0, .slice none 0 0]) (t := 30) ?hr ?_; (case hd => rfl); (case hg => rfl); (case hr => first | (go_simp; done) | (go_simp; rfl))
        intro gb241 hg w44 hbox hb
        have BK241 := As_ (hbox)
        have GW241 := As_ ((by rw [hg]; exact (below_size (by repeat (first | (with_reducible first | exact HB.out | apply below_alloc | apply pw_below_drewN | apply below_drew1 | refine below_setA ?_ (by assumption)) | exact HB.out))) : w.heap.size ≤ gb241))
        have GE241 := As_ ((by rw [hg]; exact (below_size (by repeat (first | (with_reducible first | exact HB.out | apply below_alloc | apply pw_below_drewN | apply below_drew1 | refine below_setA ?_ (by assumption)) | exact HB.out))) : w.heap.size ≤ gb241))
        have NB208_241 := As_ (ne_lt hg BK208.out)
        have NB241_208 := As_ (ne_gt hg BK208.out)
        have NB209_241 := As_ (ne_lt hg BK209.out)
        have NB241_209 := As_ (ne_gt hg BK209.out)
        have NB225_241 := As_ (ne_lt hg BK225.out)
        have NB241_225 := As_ (ne_gt hg BK225.out)
        have NB231_241 := As_ (ne_lt hg BK231.out)
        have NB241_231 := As_ (ne_gt hg BK231.out)
        replace HO215 := As_ (Kd.R_below (by (with_reducible repeat (first | apply Kd.R_alloc | apply Kd.R_drewN | apply Kd.R_drew)); exact HO215.out) hb)
        replace HO223 := As_ (Kd.R_below (by (with_reducible repeat (first | apply Kd.R_alloc | apply Kd.R_drewN | apply Kd.R_drew)); exact HO223.out) hb)
        replace HO230 := As_ (Kd.R_below (by (with_reducible repeat (first | apply Kd.R_alloc | apply Kd.R_drewN | apply Kd.R_drew)); exact HO230.out) hb)
        replace BK208 := As_ (blk_b hb BK208.out)
        replace BK209 := As_ (blk_b hb BK209.out)
        replace BK225 := As_ (blk_b hb BK225.out)
        replace BK231 := As_ (blk_b hb BK231.out)
        replace HB := As_ (below_step (by repeat (first | (with_reducible first | exact HB.out | apply below_alloc | apply pw_below_drewN | apply below_drew1 | refine below_setA ?_ (by assumption)) | exact HB.out)) hb)
        clear hb hbox hg
        refine hK.out _ _ ⟨(blk_cell BK231.out 0).trans rfl, (blk_cell BK231.out 1).trans rfl, (blk_cell BK231.out 2).trans rfl, (blk_cell BK209.out 0).trans rfl, (blk_cell BK209.out 1).trans rfl, (blk_cell BK209.out 2).trans rfl⟩ (fun hHeld => ?_)
        clear hK K
        refine norm_ (a' := ?_) ?_ ?_
        rotate_left
        · show Act.put _ (some 9) _ = _
          simp only [Act.put, List.setIfInBounds_toArray, List.set_cons_zero, List.set_cons_succ, i64_w, i32_w]
          rfl
        refine one_ (i := 2) (N := some 34) #[true, true, true, false, false, false, false, true, false, false] rfl rfl (one_of HT_.out (by kernel_rfl)) (by decide) (fun K hK => ?_)
        refine goes_ Try.func10 (by kernel_rfl) rfl #[.agg #[.int .i64 a1_0, .int .i64 a1_1, .int .i64 a1_2]] (by rfl) rfl rfl (by (try simp only [List.map_toArray, List.map_cons, List.map_nil]); first | done | rfl | (simp only [List.length_drop, List.length_take]; rfl)) ?_
        with_reducible refine (laws_toClue.calls a1_0 a1_1 a1_2 t232 t233 t234 _ A14.out).mono ?_
        rintro e w45 ⟨rfl, hb⟩
        refine ⟨_, rfl, ?_⟩
        replace HO215 := As_ (Kd.R_below (by (with_reducible repeat (first | apply Kd.R_alloc | apply Kd.R_drewN | apply Kd.R_drew)); exact HO215.out) hb)
        replace HO223 := As_ (Kd.R_below (by (with_reducible repeat (first | apply Kd.R_alloc | apply Kd.R_drewN | apply Kd.R_drew)); exact HO223.out) hb)
        replace HO230 := As_ (Kd.R_below (by (with_reducible repeat (first | apply Kd.R_alloc | apply Kd.R_drewN | apply Kd.R_drew)); exact HO230.out) hb)
        replace BK208 := As_ (blk_b hb BK208.out)
        replace BK209 := As_ (blk_b hb BK209.out)
        replace BK225 := As_ (blk_b hb BK225.out)
        replace BK231 := As_ (blk_b hb BK231.out)
        replace BK241 := As_ (blk_b hb BK241.out)
        replace HB := As_ (below_step (by repeat (first | (with_reducible first | exact HB.out | apply below_alloc | apply pw_below_drewN | apply below_drew1 | refine below_setA ?_ (by assumption)) | exact HB.out)) hb)
        (try clear hb)
        (try clear hb2)
        (try clear hk)
        (try clear hi)
        refine hK.out _ _ ⟨(blk_cell BK231.out 0).trans rfl, (blk_cell BK231.out 1).trans rfl, (blk_cell BK231.out 2).trans rfl, (blk_cell BK209.out 0).trans rfl, (blk_cell BK209.out 1).trans rfl, (blk_cell BK209.out 2).trans rfl⟩ (fun hHeld => ?_)
        clear hK K
        refine norm_ (a' := ?_) ?_ ?_
        rotate_left
        · show Act.put _ (some 34) _ = _
          simp only [Act.put, List.setIfInBounds_toArray, List.set_cons_zero, List.set_cons_succ, i64_w, i32_w]
          rfl
        refine one_ (i := 3) (N := some 35) #[true, true, true, true, false, false, false, true, false, false] rfl rfl (one_of HT_.out (by kernel_rfl)) (by decide) (fun K hK => ?_)
        refine goes_ Try.func11 (by kernel_rfl) rfl #[.agg #[.int .i64 t226, .int .i64 t227, .slice Ao41 t228.length co41], .agg #[.int .i64 t232, .int .i64 t233, .int .i64 t234]] (by rfl) rfl rfl (by (try simp only [List.map_toArray, List.map_cons, List.map_nil]); first | done | rfl | (simp only [List.length_drop, List.length_take]; rfl)) ?_
        with_reducible refine (impl_AddClue.calls t226 t227 _ _ t228 t232 t233 t234 t235 t236 t237 t240 _ ?side1 ?side2 A15.out).mono ?_
        (case side1 => repeat (first | exact (Kd.R_reads' HO230.out).2.2 | (with_reducible refine Kd.C_alloc ?_ _) | (with_reducible refine Kd.C_drewN ?_ _) | (with_reducible refine Kd.C_drew ?_)))
        (case side2 => exact (Kd.R_reads' HO230.out).2.1)
        rintro e w46 ⟨v238, rfl, ho0, hb⟩
        refine ⟨_, rfl, ?_⟩
        have HO239 := As_ (Kd.R_lower (Kd.R_new' (Kd.R_new' (Kd.R_new' ho0 (Kd.R_lt (by (with_reducible repeat (first | apply Kd.R_alloc | apply Kd.R_drewN | apply Kd.R_drew)); exact HO215.out))) (Kd.R_lt (by (with_reducible repeat (first | apply Kd.R_alloc | apply Kd.R_drewN | apply Kd.R_drew)); exact HO223.out))) (Kd.R_lt (by (with_reducible repeat (first | apply Kd.R_alloc | apply Kd.R_drewN | apply Kd.R_drew)); exact HO230.out))) (below_size (by repeat (first | (with_reducible first | exact HB.out | apply below_alloc | apply pw_below_drewN | apply below_drew1 | refine below_setA ?_ (by assumption)) | exact HB.out))))
        replace HO215 := As_ (Kd.R_elder' (by (with_reducible repeat (first | apply Kd.R_alloc | apply Kd.R_drewN | apply Kd.R_drew)); exact HO215.out) (Kd.R_base ho0) hb)
        replace HO223 := As_ (Kd.R_elder' (by (with_reducible repeat (first | apply Kd.R_alloc | apply Kd.R_drewN | apply Kd.R_drew)); exact HO223.out) (Kd.R_base ho0) hb)
        replace HO230 := As_ (Kd.R_elder' (by (with_reducible repeat (first | apply Kd.R_alloc | apply Kd.R_drewN | apply Kd.R_drew)); exact HO230.out) (Kd.R_base ho0) hb)
        replace BK208 := As_ (blk_b hb BK208.out)
        replace BK209 := As_ (blk_b hb BK209.out)
        replace BK225 := As_ (blk_b hb BK225.out)
        replace BK231 := As_ (blk_b hb BK231.out)
        replace BK241 := As_ (blk_b hb BK241.out)
        replace HB := As_ (below_step (by repeat (first | (with_reducible first | exact HB.out | apply below_alloc | apply pw_below_drewN | apply below_drew1 | refine below_setA ?_ (by assumption)) | exact HB.out)) hb)
        (try clear hb)
        (try clear hb2)
        (try clear hk)
        (try clear hi)
        (try clear ho0)
        refine hK.out _ _ ⟨(blk_cell BK231.out 0).trans rfl, (blk_cell BK231.out 1).trans rfl, (blk_cell BK231.out 2).trans rfl, (blk_cell BK209.out 0).trans rfl, (blk_cell BK209.out 1).trans rfl, (blk_cell BK209.out 2).trans rfl⟩ (fun hHeld => ?_)
        clear hK K
        refine norm_ (a' := ?_) ?_ ?_
        rotate_left
        · show Act.put _ (some 35) _ = _
          simp only [Act.put, List.setIfInBounds_toArray, List.set_cons_zero, List.set_cons_succ, i64_w, i32_w]
          rfl
        refine pure_ (i := 4) (N := some 31) (v := ?_) (a' := ?_) #[true, true, true, true, true, false, false, true, false, false] rfl rfl (any_of HT_.out (by kernel_rfl)) (fun _ _ _ h => h) (Or.inl ⟨by rfl, ?_⟩) ?_ ?_
        rotate_left
        · intro w'
          go_simp
          with_reducible rfl
        rotate_left
        · simp only [Act.put, List.setIfInBounds_toArray, List.set_cons_zero, List.set_cons_succ, i64_w, i32_w]
          rfl
        refine pure_ (i := 5) (N := some 36) (v := ?_) (a' := ?_) #[true, true, true, true, true, true, false, true, false, false] rfl rfl (any_of HT_.out (by kernel_rfl)) (fun _ _ _ h => h) (Or.inl ⟨by rfl, ?_⟩) ?_ ?_
        rotate_left
        · intro w'
          go_simp
          with_reducible rfl
        rotate_left
        · simp only [Act.put, List.setIfInBounds_toArray, List.set_cons_zero, List.set_cons_succ, i64_w, i32_w]
          rfl
        refine pure_ (i := 6) (N := some 37) (v := ?_) (a' := ?_) #[true, true, true, true, true, true, true, true, false, false] rfl rfl (any_of HT_.out (by kernel_rfl)) (fun _ _ _ h => h) (Or.inl ⟨by rfl, ?_⟩) ?_ ?_
        rotate_left
        · intro w'
          go_simp
          with_reducible rfl
        rotate_left
        · simp only [Act.put, List.setIfInBounds_toArray, List.set_cons_zero, List.set_cons_succ, i64_w, i32_w]
          rfl
        exact norm_ (by simp only [putAll, Act.put, List.setIfInBounds_toArray, List.set_cons_zero, List.set_cons_succ]) (hCont (v238, gb241) _ ⟨hHeld, (by (with_reducible repeat (first | apply Kd.R_alloc | apply Kd.R_drewN | apply Kd.R_drew)); exact Kd.R_mono HO215.out (fun _ hk => ⟨hk.1.1, ⟨hk.1.2, hk.2⟩⟩)), (by (with_reducible repeat (first | apply Kd.R_alloc | apply Kd.R_drewN | apply Kd.R_drew)); exact Kd.R_mono HO223.out (fun _ hk => ⟨hk.1.1, ⟨hk.1.2, hk.2⟩⟩)), (by (with_reducible repeat (first | apply Kd.R_alloc | apply Kd.R_drewN | apply Kd.R_drew)); exact Kd.R_mono HO230.out (fun _ hk => ⟨hk.1.1, ⟨hk.1.2, hk.2⟩⟩)), (by (with_reducible repeat (first | apply Kd.R_alloc | apply Kd.R_drewN | apply Kd.R_drew)); exact Kd.R_mono HO239.out (fun _ hk => ⟨hk.1.1.2, ⟨hk.1.2, hk.2⟩⟩)), BK208.out, BK209.out, BK225.out, BK231.out, BK241.out, GW241.out, GE241.out, NB208_241.out, NB241_208.out, NB209_241.out, NB241_209.out, NB225_241.out, NB241_225.out, NB231_241.out, NB241_231.out, (by repeat (first | (with_reducible first | exact HB.out | apply below_alloc | apply pw_below_drewN | apply below_drew1 | refine below_setA ?_ (by assumption)) | exact HB.out))⟩)
    rintro ⟨v238, gb241⟩ w47 ⟨hS_, h0_, h1_, h2_, h3_, h4_, h5_, h6_, h7_, h8_, h9_, h10_, h11_, h12_, h13_, h14_, h15_, h16_, h17_, h18_, h19_⟩
    have n0_ : Aside0 (Kd.R k34 34 w47 w.heap.size (fun k_ => some k_ ≠ (.slice Ao31 t221.length co31 : Value).ownBlock ∧ some k_ ≠ (.slice Ao41 t228.length co41 : Value).ownBlock ∧ some k_ ≠ (v238 : Value).ownBlock) v214 t213) := ⟨h0_⟩
    have n1_ : Aside0 (Kd.R k34 34 w47 w.heap.size (fun k_ => some k_ ≠ (v214 : Value).ownBlock ∧ some k_ ≠ (.slice Ao41 t228.length co41 : Value).ownBlock ∧ some k_ ≠ (v238 : Value).ownBlock) (.slice Ao31 t221.length co31) t221) := ⟨h1_⟩
    have n2_ : Aside0 (Kd.R k34 34 w47 w.heap.size (fun k_ => some k_ ≠ (v214 : Value).ownBlock ∧ some k_ ≠ (.slice Ao31 t221.length co31 : Value).ownBlock ∧ some k_ ≠ (v238 : Value).ownBlock) (.slice Ao41 t228.length co41) t228) := ⟨h2_⟩
    have n3_ : Aside0 (Kd.R k34 34 w47 w.heap.size (fun k_ => some k_ ≠ (v214 : Value).ownBlock ∧ some k_ ≠ (.slice Ao31 t221.length co31 : Value).ownBlock ∧ some k_ ≠ (.slice Ao41 t228.length co41 : Value).ownBlock) v238 t237) := ⟨h3_⟩
    have n4_ : Aside0 (w47.heap[gb208]? = some (.cells #[.int .i64 a0_0, .int .i64 a0_1, .slice A0_2 l0_2.length c0_2] 24 (0, 0))) := ⟨h4_⟩
    have n5_ : Aside0 (w47.heap[gb209]? = some (.cells #[.int .i64 a1_0, .int .i64 a1_1, .int .i64 a1_2] 26 (0, 0))) := ⟨h5_⟩
    have n6_ : Aside0 (w47.heap[gb225]? = some (.cells #[.int .i64 t219, .int .i64 t220, .slice Ao31 t221.length co31] 30 (0, 0))) := ⟨h6_⟩
    have n7_ : Aside0 (w47.heap[gb231]? = some (.cells #[.int .i64 t226, .int .i64 t227, .slice Ao41 t228.length co41] 30 (0, 0))) := ⟨h7_⟩
    have n8_ : Aside0 (w47.heap[gb241]? = some (.cells #[.int .i64 0, .int .i64 0, .slice none 0 0] 30 (0, 0))) := ⟨h8_⟩
    have n9_ : Aside0 (w.heap.size ≤ gb241) := ⟨h9_⟩
    have n10_ : Aside0 (w.heap.size ≤ gb241) := ⟨h10_⟩
    have n11_ : Aside0 (gb208 ≠ gb241) := ⟨h11_⟩
    have n12_ : Aside0 (gb241 ≠ gb208) := ⟨h12_⟩
    have n13_ : Aside0 (gb209 ≠ gb241) := ⟨h13_⟩
    have n14_ : Aside0 (gb241 ≠ gb209) := ⟨h14_⟩
    have n15_ : Aside0 (gb225 ≠ gb241) := ⟨h15_⟩
    have n16_ : Aside0 (gb241 ≠ gb225) := ⟨h16_⟩
    have n17_ : Aside0 (gb231 ≠ gb241) := ⟨h17_⟩
    have n18_ : Aside0 (gb241 ≠ gb231) := ⟨h18_⟩
    have n19_ : Aside0 (Below w.heap.size w w47) := ⟨h19_⟩
    clear HO215
    clear HO223
    clear HO230
    clear BK208
    clear BK209
    clear BK225
    clear BK231
    clear HB
    clear h0_ h1_ h2_ h3_ h4_ h5_ h6_ h7_ h8_ h9_ h10_ h11_ h12_ h13_ h14_ h15_ h16_ h17_ h18_ h19_
    have HO215 := n0_
    have HO223 := n1_
    have HO230 := n2_
    have HO239 := n3_
    have BK208 := n4_
    have BK209 := n5_
    have BK225 := n6_
    have BK231 := n7_
    have BK241 := n8_
    have GW241 := n9_
    have GE241 := n10_
    have NB208_241 := n11_
    have NB241_208 := n12_
    have NB209_241 := n13_
    have NB241_209 := n14_
    have NB225_241 := n15_
    have NB241_225 := n16_
    have NB231_241 := n17_
    have NB241_231 := n18_
    have HB := n19_
    clear n0_ n1_ n2_ n3_ n4_ n5_ n6_ n7_ n8_ n9_ n10_ n11_ n12_ n13_ n14_ n15_ n16_ n17_ n18_ n19_
    have hHeld : w47.cell? ⟨gb231, 0, none⟩ = some (.int .i64 t226) ∧ w47.cell? ⟨gb231, 1, none⟩ = some (.int .i64 t227) ∧ w47.cell? ⟨gb231, 2, none⟩ = some (.slice Ao41 t228.length co41) ∧ w47.cell? ⟨gb209, 0, none⟩ = some (.int .i64 a1_0) ∧ w47.cell? ⟨gb209, 1, none⟩ = some (.int .i64 a1_1) ∧ w47.cell? ⟨gb209, 2, none⟩ = some (.int .i64 a1_2) := hS_
    obtain ⟨Ao50, co50, eo50⟩ := Kd.R_slice HO239.out
    (first | subst eo50 | (injection eo50 with f1_ f2_ f3_; have f4_ := f1_.symm; have f5_ := f3_.symm; clear f1_ f2_ f3_; subst f4_; subst f5_))
    refine norm_ (a' := ?_) ?_ ?_
    rotate_left
    · simp only [putAll, Act.put, List.setIfInBounds_toArray, List.set_cons_zero, List.set_cons_succ]
      rfl
    refine one_ (i := 8) (N := none) #[true, true, true, true, true, true, true, true, true, false] rfl rfl (one_of HT_.out (by kernel_rfl)) (by decide) (fun K hK => ?_)
    have hs48 : w47.cell? ⟨gb241, 0, none⟩ = some (.int .i64 0) := (blk_cell BK241.out 0).trans rfl
    have hfs48 := blk_frozen BK241.out 0
    have hns48_0 := NB208_241.out
    have hns48_1 := NB209_241.out
    have hns48_2 := NB225_241.out
    have hns48_3 := NB231_241.out
    have hms48_0 := NB241_208.out
    have hms48_1 := NB241_209.out
    have hms48_2 := NB241_225.out
    have hms48_3 := NB241_231.out
    have hs49 : w47.cell? ⟨gb241, 1, none⟩ = some (.int .i64 0) := (blk_cell BK241.out 1).trans rfl
    have hfs49 := blk_frozen BK241.out 1
    have hns49_0 := NB208_241.out
    have hns49_1 := NB209_241.out
    have hns49_2 := NB225_241.out
    have hns49_3 := NB231_241.out
    have hms49_0 := NB241_208.out
    have hms49_1 := NB241_209.out
    have hms49_2 := NB241_225.out
    have hms49_3 := NB241_231.out
    have hs51 : w47.cell? ⟨gb241, 2, none⟩ = some (.slice none 0 0) := (blk_cell BK241.out 2).trans rfl
    have hfs51 := blk_frozen BK241.out 2
    have hns51_0 := NB208_241.out
    have hns51_1 := NB209_241.out
    have hns51_2 := NB225_241.out
    have hns51_3 := NB231_241.out
    have hms51_0 := NB241_208.out
    have hms51_1 := NB241_209.out
    have hms51_2 := NB241_225.out
    have hms51_3 := NB241_231.out
    refine skip_ (w1 := ?_) (by rfl) rfl ?_ ?_
    rotate_left
    · go_simp
      rfl
    refine hK.out _ _ ⟨((cell_far (p := ⟨gb241, _, none⟩) NB231_241.out _).trans (((cell_far (p := ⟨gb241, _, none⟩) NB231_241.out _).trans (((cell_far (p := ⟨gb241, _, none⟩) NB231_241.out _).trans (hHeld.1)))))), ((cell_far (p := ⟨gb241, _, none⟩) NB231_241.out _).trans (((cell_far (p := ⟨gb241, _, none⟩) NB231_241.out _).trans (((cell_far (p := ⟨gb241, _, none⟩) NB231_241.out _).trans (hHeld.2.1)))))), ((cell_far (p := ⟨gb241, _, none⟩) NB231_241.out _).trans (((cell_far (p := ⟨gb241, _, none⟩) NB231_241.out _).trans (((cell_far (p := ⟨gb241, _, none⟩) NB231_241.out _).trans (hHeld.2.2.1)))))), ((cell_far (p := ⟨gb241, _, none⟩) NB209_241.out _).trans (((cell_far (p := ⟨gb241, _, none⟩) NB209_241.out _).trans (((cell_far (p := ⟨gb241, _, none⟩) NB209_241.out _).trans (hHeld.2.2.2.1)))))), ((cell_far (p := ⟨gb241, _, none⟩) NB209_241.out _).trans (((cell_far (p := ⟨gb241, _, none⟩) NB209_241.out _).trans (((cell_far (p := ⟨gb241, _, none⟩) NB209_241.out _).trans (hHeld.2.2.2.2.1)))))), ((cell_far (p := ⟨gb241, _, none⟩) NB209_241.out _).trans (((cell_far (p := ⟨gb241, _, none⟩) NB209_241.out _).trans (((cell_far (p := ⟨gb241, _, none⟩) NB209_241.out _).trans (hHeld.2.2.2.2.2))))))⟩ (fun hHeld => ?_)
    clear hK K
    refine pure_ (i := 9) (N := some 10) (v := ?_) (a' := ?_) #[true, true, true, true, true, true, true, true, true, true] rfl rfl (any_of HT_.out (by kernel_rfl)) (fun _ _ _ h => h) (Or.inl ⟨by rfl, ?_⟩) ?_ ?_
    rotate_left
    · intro w'
      go_simp
      with_reducible rfl
    rotate_left
    · simp only [Act.put, List.setIfInBounds_toArray, List.set_cons_zero, List.set_cons_succ, i64_w, i32_w]
      rfl
    refine done_ (done_of HT_.out (by kernel_rfl)) ?_
    go_upto_region 8 with (fail)
    go_cut [46] (fun v46 wc => ∃ (kq : Nat) (x46_15 : Bool), v46 = .bool x46_15 ∧ Aside0 (laws_FnExactAddClue.j0 kq t224 t240 x46_15 a0_0 a0_1 l0_2 a1_0 a1_1 a1_2 t219 t220 t221 t226 t227 t228 t235 t236 t237 = some r) ∧ Aside0 (kq ≤ k) ∧ Aside0 (Kd.R k34 34 wc w.heap.size (fun k_ => some k_ ≠ ((.slice Ao41 t228.length co41) : Value).ownBlock ∧ some k_ ≠ ((.slice Ao50 t237.length co50) : Value).ownBlock) (.slice Ao31 t221.length co31) t221) ∧ Aside0 (Kd.R k34 34 wc w.heap.size (fun k_ => some k_ ≠ ((.slice Ao31 t221.length co31) : Value).ownBlock ∧ some k_ ≠ ((.slice Ao50 t237.length co50) : Value).ownBlock) (.slice Ao41 t228.length co41) t228) ∧ Aside0 (Kd.R k34 34 wc w.heap.size (fun k_ => some k_ ≠ ((.slice Ao31 t221.length co31) : Value).ownBlock ∧ some k_ ≠ ((.slice Ao41 t228.length co41) : Value).ownBlock) (.slice Ao50 t237.length co50) t237) ∧ Aside0 (wc.heap[gb208]? = some (.cells #[.int .i64 a0_0, .int .i64 a0_1, (.slice A0_2 l0_2.length c0_2)] 24 (0, 0))) ∧ Aside0 (wc.heap[gb209]? = some (.cells #[.int .i64 a1_0, .int .i64 a1_1, .int .i64 a1_2] 26 (0, 0))) ∧ Aside0 (wc.heap[gb225]? = some (.cells #[.int .i64 t219, .int .i64 t220, (.slice Ao31 t221.length co31)] 30 (0, 0))) ∧ Aside0 (wc.heap[gb231]? = some (.cells #[.int .i64 t226, .int .i64 t227, (.slice Ao41 t228.length co41)] 30 (0, 0))) ∧ Aside0 (wc.heap[gb241]? = some (.cells #[.int .i64 t235, .int .i64 t236, (.slice Ao50 t237.length co50)] 30 (0, 0))) ∧ Aside0 (Below w.heap.size w wc))
    case first =>
      have H := HC16.out
      clear HC16
      replace H := Option.bind_eq_some_iff.mp H
      obtain ⟨t242, A520, H⟩ := H
      try dsimp only at H
      have A52 := As_ A520
      clear A520
      by_cases c53 : t242 = true
      · subst c53
        have H1 : (laws_FnExactAddClue.j0 k t224 t240 (t240 != t224) a0_0 a0_1 l0_2 a1_0 a1_1 a1_2 t219 t220 t221 t226 t227 t228 t235 t236 t237) = some r := by rw [if_pos rfl] at H; exact H
        clear H
        have H := H1
        clear H1
        have H' := As_ H
        clear H
        have hnb54 := NB241_208.out
        have hnc54 := NB208_241.out
        have hnb55 := NB241_209.out
        have hnc55 := NB209_241.out
        have hnb56 := NB241_225.out
        have hnc56 := NB225_241.out
        have hnb57 := NB241_231.out
        have hnc57 := NB231_241.out
        have hcz58_0 : w47.cell? ⟨gb241, 0, none⟩ = some (.int .i64 0) := (blk_cell BK241.out 0).trans rfl
        have hcz58_1 : w47.cell? ⟨gb241, 1, none⟩ = some (.int .i64 0) := (blk_cell BK241.out 1).trans rfl
        have hcz58_2 : w47.cell? ⟨gb241, 2, none⟩ = some (.slice none 0 0) := (blk_cell BK241.out 2).trans rfl
        have hfz58_0 := blk_frozen BK241.out 0
        have hfz58_1 := blk_frozen BK241.out 1
        have hfz58_2 := blk_frozen BK241.out 2
        have hnb59 := NB225_208.out
        have hnc59 := NB208_225.out
        have hnb60 := NB225_209.out
        have hnc60 := NB209_225.out
        have hnb61 := NB225_231.out
        have hnc61 := NB231_225.out
        have hcz62_0 : w47.cell? ⟨gb225, 0, none⟩ = some (.int .i64 t219) := (blk_cell BK225.out 0).trans rfl
        have hcz62_1 : w47.cell? ⟨gb225, 1, none⟩ = some (.int .i64 t220) := (blk_cell BK225.out 1).trans rfl
        have hcz62_2 : w47.cell? ⟨gb225, 2, none⟩ = some (.slice Ao31 t221.length co31) := (blk_cell BK225.out 2).trans rfl
        have hfz62_0 := blk_frozen BK225.out 0
        have hfz62_1 := blk_frozen BK225.out 1
        have hfz62_2 := blk_frozen BK225.out 2
        go_wp2_with (first | ((with_reducible refine gate_callee (f := 12) rfl ?_); refine goesL_ (some 40) rfl rfl Try.func12 (by kernel_rfl) rfl #[.agg #[.int .i64 t235, .int .i64 t236, .slice Ao50 t237.length co50], .agg #[.int .i64 t219, .int .i64 t220, .slice Ao31 t221.length co31]] rfl (by (try simp only [List.map_toArray, List.map_cons, List.map_nil]); first | done | rfl | (simp only [List.length_drop, List.length_take]; rfl)) ?_; (with_reducible refine (laws_eqPuzzle.calls k t235 t236 _ _ t237 t219 t220 _ _ t221 true _ ?side1 ?side2 ?side3 ?side4 A52.out).mono ?_); (case side1 => refine (Kd.R_reads' (e := 34) (base := w.heap.size) (ok := fun k_ => (some k_ ≠ (v214 : Value).ownBlock ∧ (some k_ ≠ (.slice Ao31 t221.length co31 : Value).ownBlock ∧ some k_ ≠ (.slice Ao41 t228.length co41 : Value).ownBlock))) (n := t237.length) (c := co50) ?_).2.2; exact (by (with_reducible repeat (first | apply Kd.R_alloc | apply Kd.R_drewN | apply Kd.R_drew)); exact (Kd.R_mono (Kd.R_far (p := ⟨gb241, 2, none⟩) (Kd.R_far (p := ⟨gb241, 1, none⟩) (Kd.R_far (p := ⟨gb241, 0, none⟩) (Kd.R_types HO239.out BK241.out (by decide)) (fun _ hk => hk.2) (.int .i64 t235)) (fun _ hk => hk.2) (.int .i64 t236)) (fun _ hk => hk.2) (.slice Ao50 t237.length co50)) (fun _ h_ => h_.1)))); (case side2 => exact (Kd.R_reads' HO239.out).2.1); (case side3 => refine (Kd.R_reads' (e := 34) (base := w.heap.size) (ok := fun k_ => (some k_ ≠ (v214 : Value).ownBlock ∧ (some k_ ≠ (.slice Ao41 t228.length co41 : Value).ownBlock ∧ some k_ ≠ (.slice Ao50 t237.length co50 : Value).ownBlock))) (n := t221.length) (c := co31) ?_).2.2; exact (by (with_reducible repeat (first | apply Kd.R_alloc | apply Kd.R_drewN | apply Kd.R_drew)); exact (Kd.R_mono (Kd.R_far (p := ⟨gb241, 2, none⟩) (Kd.R_far (p := ⟨gb241, 1, none⟩) (Kd.R_far (p := ⟨gb241, 0, none⟩) (Kd.R_types HO223.out BK241.out (by decide)) (fun _ hk => hk.2) (.int .i64 t235)) (fun _ hk => hk.2) (.int .i64 t236)) (fun _ hk => hk.2) (.slice Ao50 t237.length co50)) (fun _ h_ => h_.1)))); (case side4 => exact (Kd.R_reads' HO223.out).2.1); rintro e w63 ⟨rfl, hb⟩; refine ⟨_, rfl, ?_⟩; replace HO215 := As_ (Kd.R_below (by (with_reducible repeat (first | apply Kd.R_alloc | apply Kd.R_drewN | apply Kd.R_drew)); exact (Kd.R_mono (Kd.R_far (p := ⟨gb241, 2, none⟩) (Kd.R_far (p := ⟨gb241, 1, none⟩) (Kd.R_far (p := ⟨gb241, 0, none⟩) (Kd.R_types HO215.out BK241.out (by decide)) (fun _ hk => hk.2) (.int .i64 t235)) (fun _ hk => hk.2) (.int .i64 t236)) (fun _ hk => hk.2) (.slice Ao50 t237.length co50)) (fun _ h_ => h_.1))) hb); replace HO223 := As_ (Kd.R_below (by (with_reducible repeat (first | apply Kd.R_alloc | apply Kd.R_drewN | apply Kd.R_drew)); exact (Kd.R_mono (Kd.R_far (p := ⟨gb241, 2, none⟩) (Kd.R_far (p := ⟨gb241, 1, none⟩) (Kd.R_far (p := ⟨gb241, 0, none⟩) (Kd.R_types HO223.out BK241.out (by decide)) (fun _ hk => hk.2) (.int .i64 t235)) (fun _ hk => hk.2) (.int .i64 t236)) (fun _ hk => hk.2) (.slice Ao50 t237.length co50)) (fun _ h_ => h_.1))) hb); replace HO230 := As_ (Kd.R_below (by (with_reducible repeat (first | apply Kd.R_alloc | apply Kd.R_drewN | apply Kd.R_drew)); exact (Kd.R_mono (Kd.R_far (p := ⟨gb241, 2, none⟩) (Kd.R_far (p := ⟨gb241, 1, none⟩) (Kd.R_far (p := ⟨gb241, 0, none⟩) (Kd.R_types HO230.out BK241.out (by decide)) (fun _ hk => hk.2) (.int .i64 t235)) (fun _ hk => hk.2) (.int .i64 t236)) (fun _ hk => hk.2) (.slice Ao50 t237.length co50)) (fun _ h_ => h_.1))) hb); replace HO239 := As_ (Kd.R_below (by (with_reducible repeat (first | apply Kd.R_alloc | apply Kd.R_drewN | apply Kd.R_drew)); exact (Kd.R_mono (Kd.R_far (p := ⟨gb241, 2, none⟩) (Kd.R_far (p := ⟨gb241, 1, none⟩) (Kd.R_far (p := ⟨gb241, 0, none⟩) (Kd.R_types HO239.out BK241.out (by decide)) (fun _ hk => hk.2) (.int .i64 t235)) (fun _ hk => hk.2) (.int .i64 t236)) (fun _ hk => hk.2) (.slice Ao50 t237.length co50)) (fun _ h_ => h_.1))) hb); replace BK208 := As_ (blk_below (g := gb208) (o := .cells #[.int .i64 a0_0, .int .i64 a0_1, .slice A0_2 l0_2.length c0_2] 24 (0, 0)) (by (with_reducible repeat (first | refine blk_drewN ?_ _ | refine blk_drew ?_ | refine blk_alloc ?_ _)); refine blk_far ?_ NB208_241.out _; refine blk_far ?_ NB208_241.out _; refine blk_far ?_ NB208_241.out _; (with_reducible repeat (first | refine blk_drewN ?_ _ | refine blk_drew ?_ | refine blk_alloc ?_ _)); exact BK208.out) hb); replace BK209 := As_ (blk_below (g := gb209) (o := .cells #[.int .i64 a1_0, .int .i64 a1_1, .int .i64 a1_2] 26 (0, 0)) (by (with_reducible repeat (first | refine blk_drewN ?_ _ | refine blk_drew ?_ | refine blk_alloc ?_ _)); refine blk_far ?_ NB209_241.out _; refine blk_far ?_ NB209_241.out _; refine blk_far ?_ NB209_241.out _; (with_reducible repeat (first | refine blk_drewN ?_ _ | refine blk_drew ?_ | refine blk_alloc ?_ _)); exact BK209.out) hb); replace BK225 := As_ (blk_below (g := gb225) (o := .cells #[.int .i64 t219, .int .i64 t220, .slice Ao31 t221.length co31] 30 (0, 0)) (by (with_reducible repeat (first | refine blk_drewN ?_ _ | refine blk_drew ?_ | refine blk_alloc ?_ _)); refine blk_far ?_ NB225_241.out _; refine blk_far ?_ NB225_241.out _; refine blk_far ?_ NB225_241.out _; (with_reducible repeat (first | refine blk_drewN ?_ _ | refine blk_drew ?_ | refine blk_alloc ?_ _)); exact BK225.out) hb); replace BK231 := As_ (blk_below (g := gb231) (o := .cells #[.int .i64 t226, .int .i64 t227, .slice Ao41 t228.length co41] 30 (0, 0)) (by (with_reducible repeat (first | refine blk_drewN ?_ _ | refine blk_drew ?_ | refine blk_alloc ?_ _)); refine blk_far ?_ NB231_241.out _; refine blk_far ?_ NB231_241.out _; refine blk_far ?_ NB231_241.out _; (with_reducible repeat (first | refine blk_drewN ?_ _ | refine blk_drew ?_ | refine blk_alloc ?_ _)); exact BK231.out) hb); replace BK241 := As_ (blk_below (g := gb241) (o := .cells #[.int .i64 t235, .int .i64 t236, .slice Ao50 t237.length co50] 30 (0, 0)) (by (with_reducible repeat (first | refine blk_drewN ?_ _ | refine blk_drew ?_ | refine blk_alloc ?_ _)); refine blk_put (cs := #[.int .i64 t235, .int .i64 t236, .slice none 0 0]) ?_ 2 _ rfl; refine blk_put (cs := #[.int .i64 t235, .int .i64 0, .slice none 0 0]) ?_ 1 _ rfl; refine blk_put (cs := #[.int .i64 0, .int .i64 0, .slice none 0 0]) ?_ 0 _ rfl; (with_reducible repeat (first | refine blk_drewN ?_ _ | refine blk_drew ?_ | refine blk_alloc ?_ _)); exact BK241.out) hb); replace HB := As_ (below_step (by repeat (first | (with_reducible first | exact HB.out | apply below_alloc | apply pw_below_drewN | apply below_drew1 | refine below_setA ?_ (by assumption)) | exact HB.out)) hb); (try clear hb)))
        go_meet
        case rel => exact ⟨_, ((t240 != t224)), (by first | rfl | (simp; done) | (simp [*]; done)), H', ⟨by first | omega | exact Nat.le_refl _⟩, ⟨by (with_reducible repeat (first | apply Kd.R_alloc | apply Kd.R_drewN | apply Kd.R_drew)); exact Kd.R_mono HO223.out (fun _ hk => ⟨hk.2.1, hk.2.2⟩)⟩, ⟨by (with_reducible repeat (first | apply Kd.R_alloc | apply Kd.R_drewN | apply Kd.R_drew)); exact Kd.R_mono HO230.out (fun _ hk => ⟨hk.2.1, hk.2.2⟩)⟩, ⟨by (with_reducible repeat (first | apply Kd.R_alloc | apply Kd.R_drewN | apply Kd.R_drew)); exact Kd.R_mono HO239.out (fun _ hk => ⟨hk.2.1, hk.2.2⟩)⟩, ⟨by (with_reducible repeat (first | refine blk_drewN ?_ _ | refine blk_drew ?_ | refine blk_alloc ?_ _)); exact BK208.out⟩, ⟨by (with_reducible repeat (first | refine blk_drewN ?_ _ | refine blk_drew ?_ | refine blk_alloc ?_ _)); exact BK209.out⟩, ⟨by (with_reducible repeat (first | refine blk_drewN ?_ _ | refine blk_drew ?_ | refine blk_alloc ?_ _)); exact BK225.out⟩, ⟨by (with_reducible repeat (first | refine blk_drewN ?_ _ | refine blk_drew ?_ | refine blk_alloc ?_ _)); exact BK231.out⟩, ⟨by (with_reducible repeat (first | refine blk_drewN ?_ _ | refine blk_drew ?_ | refine blk_alloc ?_ _)); exact BK241.out⟩, ⟨by repeat (first | (with_reducible first | exact HB.out | apply below_alloc | apply pw_below_drewN | apply below_drew1 | refine below_setA ?_ (by assumption)) | exact HB.out)⟩⟩
      · replace c53 := Bool.eq_false_iff.mpr c53
        subst c53
        have H1 : (laws_FnExactAddClue.j0 k t224 t240 true a0_0 a0_1 l0_2 a1_0 a1_1 a1_2 t219 t220 t221 t226 t227 t228 t235 t236 t237) = some r := by rw [if_neg (show ¬ (false = true) by decide)] at H; exact H
        clear H
        have H := H1
        clear H1
        have H' := As_ H
        clear H
        have hnb64 := NB241_208.out
        have hnc64 := NB208_241.out
        have hnb65 := NB241_209.out
        have hnc65 := NB209_241.out
        have hnb66 := NB241_225.out
        have hnc66 := NB225_241.out
        have hnb67 := NB241_231.out
        have hnc67 := NB231_241.out
        have hcz68_0 : w47.cell? ⟨gb241, 0, none⟩ = some (.int .i64 0) := (blk_cell BK241.out 0).trans rfl
        have hcz68_1 : w47.cell? ⟨gb241, 1, none⟩ = some (.int .i64 0) := (blk_cell BK241.out 1).trans rfl
        have hcz68_2 : w47.cell? ⟨gb241, 2, none⟩ = some (.slice none 0 0) := (blk_cell BK241.out 2).trans rfl
        have hfz68_0 := blk_frozen BK241.out 0
        have hfz68_1 := blk_frozen BK241.out 1
        have hfz68_2 := blk_frozen BK241.out 2
        have hnb69 := NB225_208.out
        have hnc69 := NB208_225.out
        have hnb70 := NB225_209.out
        have hnc70 := NB209_225.out
        have hnb71 := NB225_231.out
        have hnc71 := NB231_225.out
        have hcz72_0 : w47.cell? ⟨gb225, 0, none⟩ = some (.int .i64 t219) := (blk_cell BK225.out 0).trans rfl
        have hcz72_1 : w47.cell? ⟨gb225, 1, none⟩ = some (.int .i64 t220) := (blk_cell BK225.out 1).trans rfl
        have hcz72_2 : w47.cell? ⟨gb225, 2, none⟩ = some (.slice Ao31 t221.length co31) := (blk_cell BK225.out 2).trans rfl
        have hfz72_0 := blk_frozen BK225.out 0
        have hfz72_1 := blk_frozen BK225.out 1
        have hfz72_2 := blk_frozen BK225.out 2
        go_wp2_with (first | ((with_reducible refine gate_callee (f := 12) rfl ?_); refine goesL_ (some 40) rfl rfl Try.func12 (by kernel_rfl) rfl #[.agg #[.int .i64 t235, .int .i64 t236, .slice Ao50 t237.length co50], .agg #[.int .i64 t219, .int .i64 t220, .slice Ao31 t221.length co31]] rfl (by (try simp only [List.map_toArray, List.map_cons, List.map_nil]); first | done | rfl | (simp only [List.length_drop, List.length_take]; rfl)) ?_; (with_reducible refine (laws_eqPuzzle.calls k t235 t236 _ _ t237 t219 t220 _ _ t221 false _ ?side1 ?side2 ?side3 ?side4 A52.out).mono ?_); (case side1 => refine (Kd.R_reads' (e := 34) (base := w.heap.size) (ok := fun k_ => (some k_ ≠ (v214 : Value).ownBlock ∧ (some k_ ≠ (.slice Ao31 t221.length co31 : Value).ownBlock ∧ some k_ ≠ (.slice Ao41 t228.length co41 : Value).ownBlock))) (n := t237.length) (c := co50) ?_).2.2; exact (by (with_reducible repeat (first | apply Kd.R_alloc | apply Kd.R_drewN | apply Kd.R_drew)); exact (Kd.R_mono (Kd.R_far (p := ⟨gb241, 2, none⟩) (Kd.R_far (p := ⟨gb241, 1, none⟩) (Kd.R_far (p := ⟨gb241, 0, none⟩) (Kd.R_types HO239.out BK241.out (by decide)) (fun _ hk => hk.2) (.int .i64 t235)) (fun _ hk => hk.2) (.int .i64 t236)) (fun _ hk => hk.2) (.slice Ao50 t237.length co50)) (fun _ h_ => h_.1)))); (case side2 => exact (Kd.R_reads' HO239.out).2.1); (case side3 => refine (Kd.R_reads' (e := 34) (base := w.heap.size) (ok := fun k_ => (some k_ ≠ (v214 : Value).ownBlock ∧ (some k_ ≠ (.slice Ao41 t228.length co41 : Value).ownBlock ∧ some k_ ≠ (.slice Ao50 t237.length co50 : Value).ownBlock))) (n := t221.length) (c := co31) ?_).2.2; exact (by (with_reducible repeat (first | apply Kd.R_alloc | apply Kd.R_drewN | apply Kd.R_drew)); exact (Kd.R_mono (Kd.R_far (p := ⟨gb241, 2, none⟩) (Kd.R_far (p := ⟨gb241, 1, none⟩) (Kd.R_far (p := ⟨gb241, 0, none⟩) (Kd.R_types HO223.out BK241.out (by decide)) (fun _ hk => hk.2) (.int .i64 t235)) (fun _ hk => hk.2) (.int .i64 t236)) (fun _ hk => hk.2) (.slice Ao50 t237.length co50)) (fun _ h_ => h_.1)))); (case side4 => exact (Kd.R_reads' HO223.out).2.1); rintro e w73 ⟨rfl, hb⟩; refine ⟨_, rfl, ?_⟩; replace HO215 := As_ (Kd.R_below (by (with_reducible repeat (first | apply Kd.R_alloc | apply Kd.R_drewN | apply Kd.R_drew)); exact (Kd.R_mono (Kd.R_far (p := ⟨gb241, 2, none⟩) (Kd.R_far (p := ⟨gb241, 1, none⟩) (Kd.R_far (p := ⟨gb241, 0, none⟩) (Kd.R_types HO215.out BK241.out (by decide)) (fun _ hk => hk.2) (.int .i64 t235)) (fun _ hk => hk.2) (.int .i64 t236)) (fun _ hk => hk.2) (.slice Ao50 t237.length co50)) (fun _ h_ => h_.1))) hb); replace HO223 := As_ (Kd.R_below (by (with_reducible repeat (first | apply Kd.R_alloc | apply Kd.R_drewN | apply Kd.R_drew)); exact (Kd.R_mono (Kd.R_far (p := ⟨gb241, 2, none⟩) (Kd.R_far (p := ⟨gb241, 1, none⟩) (Kd.R_far (p := ⟨gb241, 0, none⟩) (Kd.R_types HO223.out BK241.out (by decide)) (fun _ hk => hk.2) (.int .i64 t235)) (fun _ hk => hk.2) (.int .i64 t236)) (fun _ hk => hk.2) (.slice Ao50 t237.length co50)) (fun _ h_ => h_.1))) hb); replace HO230 := As_ (Kd.R_below (by (with_reducible repeat (first | apply Kd.R_alloc | apply Kd.R_drewN | apply Kd.R_drew)); exact (Kd.R_mono (Kd.R_far (p := ⟨gb241, 2, none⟩) (Kd.R_far (p := ⟨gb241, 1, none⟩) (Kd.R_far (p := ⟨gb241, 0, none⟩) (Kd.R_types HO230.out BK241.out (by decide)) (fun _ hk => hk.2) (.int .i64 t235)) (fun _ hk => hk.2) (.int .i64 t236)) (fun _ hk => hk.2) (.slice Ao50 t237.length co50)) (fun _ h_ => h_.1))) hb); replace HO239 := As_ (Kd.R_below (by (with_reducible repeat (first | apply Kd.R_alloc | apply Kd.R_drewN | apply Kd.R_drew)); exact (Kd.R_mono (Kd.R_far (p := ⟨gb241, 2, none⟩) (Kd.R_far (p := ⟨gb241, 1, none⟩) (Kd.R_far (p := ⟨gb241, 0, none⟩) (Kd.R_types HO239.out BK241.out (by decide)) (fun _ hk => hk.2) (.int .i64 t235)) (fun _ hk => hk.2) (.int .i64 t236)) (fun _ hk => hk.2) (.slice Ao50 t237.length co50)) (fun _ h_ => h_.1))) hb); replace BK208 := As_ (blk_below (g := gb208) (o := .cells #[.int .i64 a0_0, .int .i64 a0_1, .slice A0_2 l0_2.length c0_2] 24 (0, 0)) (by (with_reducible repeat (first | refine blk_drewN ?_ _ | refine blk_drew ?_ | refine blk_alloc ?_ _)); refine blk_far ?_ NB208_241.out _; refine blk_far ?_ NB208_241.out _; refine blk_far ?_ NB208_241.out _; (with_reducible repeat (first | refine blk_drewN ?_ _ | refine blk_drew ?_ | refine blk_alloc ?_ _)); exact BK208.out) hb); replace BK209 := As_ (blk_below (g := gb209) (o := .cells #[.int .i64 a1_0, .int .i64 a1_1, .int .i64 a1_2] 26 (0, 0)) (by (with_reducible repeat (first | refine blk_drewN ?_ _ | refine blk_drew ?_ | refine blk_alloc ?_ _)); refine blk_far ?_ NB209_241.out _; refine blk_far ?_ NB209_241.out _; refine blk_far ?_ NB209_241.out _; (with_reducible repeat (first | refine blk_drewN ?_ _ | refine blk_drew ?_ | refine blk_alloc ?_ _)); exact BK209.out) hb); replace BK225 := As_ (blk_below (g := gb225) (o := .cells #[.int .i64 t219, .int .i64 t220, .slice Ao31 t221.length co31] 30 (0, 0)) (by (with_reducible repeat (first | refine blk_drewN ?_ _ | refine blk_drew ?_ | refine blk_alloc ?_ _)); refine blk_far ?_ NB225_241.out _; refine blk_far ?_ NB225_241.out _; refine blk_far ?_ NB225_241.out _; (with_reducible repeat (first | refine blk_drewN ?_ _ | refine blk_drew ?_ | refine blk_alloc ?_ _)); exact BK225.out) hb); replace BK231 := As_ (blk_below (g := gb231) (o := .cells #[.int .i64 t226, .int .i64 t227, .slice Ao41 t228.length co41] 30 (0, 0)) (by (with_reducible repeat (first | refine blk_drewN ?_ _ | refine blk_drew ?_ | refine blk_alloc ?_ _)); refine blk_far ?_ NB231_241.out _; refine blk_far ?_ NB231_241.out _; refine blk_far ?_ NB231_241.out _; (with_reducible repeat (first | refine blk_drewN ?_ _ | refine blk_drew ?_ | refine blk_alloc ?_ _)); exact BK231.out) hb); replace BK241 := As_ (blk_below (g := gb241) (o := .cells #[.int .i64 t235, .int .i64 t236, .slice Ao50 t237.length co50] 30 (0, 0)) (by (with_reducible repeat (first | refine blk_drewN ?_ _ | refine blk_drew ?_ | refine blk_alloc ?_ _)); refine blk_put (cs := #[.int .i64 t235, .int .i64 t236, .slice none 0 0]) ?_ 2 _ rfl; refine blk_put (cs := #[.int .i64 t235, .int .i64 0, .slice none 0 0]) ?_ 1 _ rfl; refine blk_put (cs := #[.int .i64 0, .int .i64 0, .slice none 0 0]) ?_ 0 _ rfl; (with_reducible repeat (first | refine blk_drewN ?_ _ | refine blk_drew ?_ | refine blk_alloc ?_ _)); exact BK241.out) hb); replace HB := As_ (below_step (by repeat (first | (with_reducible first | exact HB.out | apply below_alloc | apply pw_below_drewN | apply below_drew1 | refine below_setA ?_ (by assumption)) | exact HB.out)) hb); (try clear hb)))
        go_meet
        case rel => exact ⟨_, (true), (by first | rfl | (simp; done) | (simp [*]; done)), H', ⟨by first | omega | exact Nat.le_refl _⟩, ⟨by (with_reducible repeat (first | apply Kd.R_alloc | apply Kd.R_drewN | apply Kd.R_drew)); exact Kd.R_mono HO223.out (fun _ hk => ⟨hk.2.1, hk.2.2⟩)⟩, ⟨by (with_reducible repeat (first | apply Kd.R_alloc | apply Kd.R_drewN | apply Kd.R_drew)); exact Kd.R_mono HO230.out (fun _ hk => ⟨hk.2.1, hk.2.2⟩)⟩, ⟨by (with_reducible repeat (first | apply Kd.R_alloc | apply Kd.R_drewN | apply Kd.R_drew)); exact Kd.R_mono HO239.out (fun _ hk => ⟨hk.2.1, hk.2.2⟩)⟩, ⟨by (with_reducible repeat (first | refine blk_drewN ?_ _ | refine blk_drew ?_ | refine blk_alloc ?_ _)); exact BK208.out⟩, ⟨by (with_reducible repeat (first | refine blk_drewN ?_ _ | refine blk_drew ?_ | refine blk_alloc ?_ _)); exact BK209.out⟩, ⟨by (with_reducible repeat (first | refine blk_drewN ?_ _ | refine blk_drew ?_ | refine blk_alloc ?_ _)); exact BK225.out⟩, ⟨by (with_reducible repeat (first | refine blk_drewN ?_ _ | refine blk_drew ?_ | refine blk_alloc ?_ _)); exact BK231.out⟩, ⟨by (with_reducible repeat (first | refine blk_drewN ?_ _ | refine blk_drew ?_ | refine blk_alloc ?_ _)); exact BK241.out⟩, ⟨by repeat (first | (with_reducible first | exact HB.out | apply below_alloc | apply pw_below_drewN | apply below_drew1 | refine below_setA ?_ (by assumption)) | exact HB.out)⟩⟩
    case rest =>
      clear HC16
      try clear c1; try clear p2; try clear c5; try clear c6; try clear c7; try clear c10; try clear c11; try clear c12; try clear c53; try clear c54; try clear c55; try clear c56; try clear c57; try clear c59; try clear c60; try clear c61; try clear c64; try clear c65; try clear c66; try clear c67; try clear c69; try clear c70; try clear c71; try clear hcz58_0; try clear hcz58_1; try clear hcz58_2; try clear hcz62_0; try clear hcz62_1; try clear hcz62_2; try clear hcz68_0; try clear hcz68_1; try clear hcz68_2; try clear hcz72_0; try clear hcz72_1; try clear hcz72_2; try clear hfz58_0; try clear hfz58_1; try clear hfz58_2; try clear hfz62_0; try clear hfz62_1; try clear hfz62_2; try clear hfz68_0; try clear hfz68_1; try clear hfz68_2; try clear hfz72_0; try clear hfz72_1; try clear hfz72_2
      obtain ⟨kq, x46_15, rfl, HA, HJ15, HO_226002, HO_232002, HO_242002, BK208, BK209, BK225, BK231, BK241, HB⟩ := hcut
      rcases kq with _ | kj15
      · exact absurd HA.out (by simp [laws_FnExactAddClue.j0])
      have H := HA.out
      clear HA
      simp only [laws_FnExactAddClue.j0] at H
      by_cases c74 : x46_15 = true
      · subst c74
        have H1 : (none) = some r := by rw [if_pos rfl] at H; exact H
        clear H
        have H := H1
        clear H1
        exact absurd H (by simp)
      replace c74 := Bool.eq_false_iff.mpr c74
      subst c74
      have H1 : ((laws_toPuzzle.f kj15 a0_0 a0_1 l0_2).bind fun bt243 => ((laws_eqPuzzle.f kj15 t226 t227 t228 bt243.1 bt243.2.1 bt243.2.2).bind fun t248 => (if t248 = true then ((laws_markPuzzle.f kj15 t226 t227 t228 1).bind fun bt249 => (if bt249.1 < 0 then (laws_FnExactAddClue.j1 kj15 t224 true a0_0 a0_1 l0_2 a1_0 a1_1 a1_2 t219 t220 t221 t235 t236 t237) else ((laws_eqPuzzle.f kj15 t235 t236 t237 t219 t220 t221).bind fun t251 => (if t251 = true then (laws_FnExactAddClue.j1 kj15 t224 (t240 != t224) a0_0 a0_1 l0_2 a1_0 a1_1 a1_2 t219 t220 t221 t235 t236 t237) else (laws_FnExactAddClue.j1 kj15 t224 true a0_0 a0_1 l0_2 a1_0 a1_1 a1_2 t219 t220 t221 t235 t236 t237))))) else (none)))) = some r := by rw [if_neg (show ¬ (false = true) by decide)] at H; exact H
      clear H
      have H := H1
      clear H1
      replace H := Option.bind_eq_some_iff.mp H
      obtain ⟨⟨t243, t244, t245⟩, A750, H⟩ := H
      try dsimp only at H
      have A75 := As_ A750
      clear A750
      replace H := Option.bind_eq_some_iff.mp H
      obtain ⟨t248, A760, H⟩ := H
      try dsimp only at H
      have A76 := As_ A760
      clear A760
      by_cases c77 : t248 = true
      case neg =>
        replace c77 := Bool.eq_false_iff.mpr c77
        subst c77
        have H1 : (none) = some r := by rw [if_neg (show ¬ (false = true) by decide)] at H; exact H
        clear H
        have H := H1
        clear H1
        exact absurd H (by simp)

      subst c77
      have H1 : ((laws_markPuzzle.f kj15 t226 t227 t228 1).bind fun bt249 => (if bt249.1 < 0 then (laws_FnExactAddClue.j1 kj15 t224 true a0_0 a0_1 l0_2 a1_0 a1_1 a1_2 t219 t220 t221 t235 t236 t237) else ((laws_eqPuzzle.f kj15 t235 t236 t237 t219 t220 t221).bind fun t251 => (if t251 = true then (laws_FnExactAddClue.j1 kj15 t224 (t240 != t224) a0_0 a0_1 l0_2 a1_0 a1_1 a1_2 t219 t220 t221 t235 t236 t237) else (laws_FnExactAddClue.j1 kj15 t224 true a0_0 a0_1 l0_2 a1_0 a1_1 a1_2 t219 t220 t221 t235 t236 t237))))) = some r := by rw [if_pos rfl] at H; exact H
      clear H
      have H := H1
      clear H1
      replace H := Option.bind_eq_some_iff.mp H
      obtain ⟨⟨t249, t250⟩, A780, H⟩ := H
      try dsimp only at H
      have A78 := As_ A780
      clear A780
      have HC79 := As_ H
      clear H
      try go_wp2
      replace HO_226002 := As_ (Kd.R_drew HO_226002.out)
      replace HO_232002 := As_ (Kd.R_drew HO_232002.out)
      replace HO_242002 := As_ (Kd.R_drew HO_242002.out)
      replace BK208 := As_ (blk_drew BK208.out)
      replace BK209 := As_ (blk_drew BK209.out)
      replace BK225 := As_ (blk_drew BK225.out)
      replace BK231 := As_ (blk_drew BK231.out)
      replace BK241 := As_ (blk_drew BK241.out)
      replace HB := As_ (below_drew1 HB.out)
      refine start_ (n := 5) (S := fun w' => w'.cell? ⟨gb231, 0, none⟩ = some (.int .i64 t226) ∧ w'.cell? ⟨gb231, 1, none⟩ = some (.int .i64 t227) ∧ w'.cell? ⟨gb231, 2, none⟩ = some (.slice Ao41 t228.length co41) ∧ w'.cell? ⟨gb208, 0, none⟩ = some (.int .i64 a0_0) ∧ w'.cell? ⟨gb208, 1, none⟩ = some (.int .i64 a0_1) ∧ w'.cell? ⟨gb208, 2, none⟩ = some (.slice A0_2 l0_2.length c0_2)) (ds := []) #[false, false, false, false, false] (by kernel_rfl) rfl rfl ⟨(blk_cell BK231.out 0).trans rfl, (blk_cell BK231.out 1).trans rfl, (blk_cell BK231.out 2).trans rfl, (blk_cell BK208.out 0).trans rfl, (blk_cell BK208.out 1).trans rfl, (blk_cell BK208.out 2).trans rfl⟩ (fun hHeld => ?_)
      generalize wc.drew = w80 at HO_226002 HO_232002 HO_242002 BK208 BK209 BK225 BK231 BK241 HB hHeld ⊢
      refine take_ (i := 0) (N := some 47) (v := ?_) (a' := ?_) #[true, false, false, false, false] rfl rfl (by kernel_rfl) (fun _ _ _ h => h) (Or.inl ⟨by rfl, ?_⟩) hHeld ?_ ?_
      rotate_left
      · rintro w' ⟨s0, s1, s2, s3, s4, s5⟩
        go_simp
        with_reducible rfl
      rotate_left
      · simp only [Act.put, List.setIfInBounds_toArray, List.set_cons_zero, List.set_cons_succ, i64_w, i32_w]
        rfl
      refine take_ (i := 1) (N := some 48) (v := ?_) (a' := ?_) #[true, true, false, false, false] rfl rfl (by kernel_rfl) (fun _ _ _ h => h) (Or.inl ⟨by rfl, ?_⟩) hHeld ?_ ?_
      rotate_left
      · rintro w' ⟨s0, s1, s2, s3, s4, s5⟩
        go_simp
        with_reducible rfl
      rotate_left
      · simp only [Act.put, List.setIfInBounds_toArray, List.set_cons_zero, List.set_cons_succ, i64_w, i32_w]
        rfl
      refine one_ (i := 2) (N := some 49) #[true, true, true, false, false] rfl rfl (by kernel_rfl) (by decide) (fun K hK => ?_)
      refine goes_ Try.func9 (by kernel_rfl) rfl #[.agg #[.int .i64 a0_0, .int .i64 a0_1, .slice A0_2 l0_2.length c0_2]] (by rfl) rfl rfl (by (try simp only [List.map_toArray, List.map_cons, List.map_nil]); first | done | rfl | (simp only [List.length_drop, List.length_take]; rfl)) ?_
      with_reducible refine (laws_toPuzzle.calls kj15 a0_0 a0_1 _ _ l0_2 t243 t244 t245 _ ?side1 ?side2 A75.out).mono ?_
      (case side1 => repeat (first | exact (Kd.C_below HR0_2.out HB.out) | (with_reducible refine Kd.C_alloc ?_ _) | (with_reducible refine Kd.C_drewN ?_ _) | (with_reducible refine Kd.C_drew ?_)))
      (case side2 => exact HC0_2.out)
      rintro e w81 ⟨v246, rfl, ho0, hb⟩
      refine ⟨_, rfl, ?_⟩
      have HO247 := As_ (Kd.R_lower (Kd.R_new' (Kd.R_new' (Kd.R_new' ho0 (Kd.R_lt (by (with_reducible repeat (first | apply Kd.R_alloc | apply Kd.R_drewN | apply Kd.R_drew)); exact HO_226002.out))) (Kd.R_lt (by (with_reducible repeat (first | apply Kd.R_alloc | apply Kd.R_drewN | apply Kd.R_drew)); exact HO_232002.out))) (Kd.R_lt (by (with_reducible repeat (first | apply Kd.R_alloc | apply Kd.R_drewN | apply Kd.R_drew)); exact HO_242002.out))) (below_size (by repeat (first | (with_reducible first | exact HB.out | apply below_alloc | apply pw_below_drewN | apply below_drew1 | refine below_setA ?_ (by assumption)) | exact HB.out))))
      replace HO_226002 := As_ (Kd.R_elder' (by (with_reducible repeat (first | apply Kd.R_alloc | apply Kd.R_drewN | apply Kd.R_drew)); exact HO_226002.out) (Kd.R_base ho0) hb)
      replace HO_232002 := As_ (Kd.R_elder' (by (with_reducible repeat (first | apply Kd.R_alloc | apply Kd.R_drewN | apply Kd.R_drew)); exact HO_232002.out) (Kd.R_base ho0) hb)
      replace HO_242002 := As_ (Kd.R_elder' (by (with_reducible repeat (first | apply Kd.R_alloc | apply Kd.R_drewN | apply Kd.R_drew)); exact HO_242002.out) (Kd.R_base ho0) hb)
      replace BK208 := As_ (blk_b hb BK208.out)
      replace BK209 := As_ (blk_b hb BK209.out)
      replace BK225 := As_ (blk_b hb BK225.out)
      replace BK231 := As_ (blk_b hb BK231.out)
      replace BK241 := As_ (blk_b hb BK241.out)
      replace HB := As_ (below_step (by repeat (first | (with_reducible first | exact HB.out | apply below_alloc | apply pw_below_drewN | apply below_drew1 | refine below_setA ?_ (by assumption)) | exact HB.out)) hb)
      (try clear hb)
      (try clear hb2)
      (try clear hk)
      (try clear hi)
      (try clear ho0)
      obtain ⟨Ao82, co82, eo82⟩ := Kd.R_slice HO247.out
      (first | subst eo82 | (injection eo82 with f1_ f2_ f3_; have f4_ := f1_.symm; have f5_ := f3_.symm; clear f1_ f2_ f3_; subst f4_; subst f5_))
      refine hK.out _ _ ⟨(blk_cell BK231.out 0).trans rfl, (blk_cell BK231.out 1).trans rfl, (blk_cell BK231.out 2).trans rfl, (blk_cell BK208.out 0).trans rfl, (blk_cell BK208.out 1).trans rfl, (blk_cell BK208.out 2).trans rfl⟩ (fun hHeld => ?_)
      clear hK K
      refine norm_ (a' := ?_) ?_ ?_
      rotate_left
      · show Act.put _ (some 49) _ = _
        simp only [Act.put, List.setIfInBounds_toArray, List.set_cons_zero, List.set_cons_succ, i64_w, i32_w]
        rfl
      refine one_ (i := 3) (N := some 50) #[true, true, true, true, false] rfl rfl (by kernel_rfl) (by decide) (fun K hK => ?_)
      refine goes_ Try.func12 (by kernel_rfl) rfl #[.agg #[.int .i64 t226, .int .i64 t227, .slice Ao41 t228.length co41], .agg #[.int .i64 t243, .int .i64 t244, .slice Ao82 t245.length co82]] (by rfl) rfl rfl (by (try simp only [List.map_toArray, List.map_cons, List.map_nil]); first | done | rfl | (simp only [List.length_drop, List.length_take]; rfl)) ?_
      with_reducible refine (laws_eqPuzzle.calls kj15 t226 t227 _ _ t228 t243 t244 _ _ t245 true _ ?side1 ?side2 ?side3 ?side4 A76.out).mono ?_
      (case side1 => repeat (first | exact (Kd.R_reads' HO_232002.out).2.2 | (with_reducible refine Kd.C_alloc ?_ _) | (with_reducible refine Kd.C_drewN ?_ _) | (with_reducible refine Kd.C_drew ?_)))
      (case side2 => exact (Kd.R_reads' HO_232002.out).2.1)
      (case side3 => repeat (first | exact (Kd.R_reads' HO247.out).2.2 | (with_reducible refine Kd.C_alloc ?_ _) | (with_reducible refine Kd.C_drewN ?_ _) | (with_reducible refine Kd.C_drew ?_)))
      (case side4 => exact (Kd.R_reads' HO247.out).2.1)
      rintro e w83 ⟨rfl, hb⟩
      refine ⟨_, rfl, ?_⟩
      replace HO_226002 := As_ (Kd.R_below (by (with_reducible repeat (first | apply Kd.R_alloc | apply Kd.R_drewN | apply Kd.R_drew)); exact HO_226002.out) hb)
      replace HO_232002 := As_ (Kd.R_below (by (with_reducible repeat (first | apply Kd.R_alloc | apply Kd.R_drewN | apply Kd.R_drew)); exact HO_232002.out) hb)
      replace HO_242002 := As_ (Kd.R_below (by (with_reducible repeat (first | apply Kd.R_alloc | apply Kd.R_drewN | apply Kd.R_drew)); exact HO_242002.out) hb)
      replace HO247 := As_ (Kd.R_below (by (with_reducible repeat (first | apply Kd.R_alloc | apply Kd.R_drewN | apply Kd.R_drew)); exact HO247.out) hb)
      replace BK208 := As_ (blk_b hb BK208.out)
      replace BK209 := As_ (blk_b hb BK209.out)
      replace BK225 := As_ (blk_b hb BK225.out)
      replace BK231 := As_ (blk_b hb BK231.out)
      replace BK241 := As_ (blk_b hb BK241.out)
      replace HB := As_ (below_step (by repeat (first | (with_reducible first | exact HB.out | apply below_alloc | apply pw_below_drewN | apply below_drew1 | refine below_setA ?_ (by assumption)) | exact HB.out)) hb)
      (try clear hb)
      (try clear hb2)
      (try clear hk)
      (try clear hi)
      refine hK.out _ _ ⟨(blk_cell BK231.out 0).trans rfl, (blk_cell BK231.out 1).trans rfl, (blk_cell BK231.out 2).trans rfl, (blk_cell BK208.out 0).trans rfl, (blk_cell BK208.out 1).trans rfl, (blk_cell BK208.out 2).trans rfl⟩ (fun hHeld => ?_)
      clear hK K
      refine norm_ (a' := ?_) ?_ ?_
      rotate_left
      · show Act.put _ (some 50) _ = _
        simp only [Act.put, List.setIfInBounds_toArray, List.set_cons_zero, List.set_cons_succ, i64_w, i32_w]
        rfl
      refine pure_ (i := 4) (N := some 51) (v := ?_) (a' := ?_) #[true, true, true, true, true] rfl rfl (by kernel_rfl) (fun _ _ _ h => h) (Or.inl ⟨by rfl, ?_⟩) ?_ ?_
      rotate_left
      · intro w'
        go_simp
        with_reducible rfl
      rotate_left
      · simp only [Act.put, List.setIfInBounds_toArray, List.set_cons_zero, List.set_cons_succ, i64_w, i32_w]
        rfl
      refine done_ (by kernel_rfl) ?_
      have hnb84 := NB231_208.out
      have hnc84 := NB208_231.out
      have hnb85 := NB231_209.out
      have hnc85 := NB209_231.out
      have hnb86 := NB231_225.out
      have hnc86 := NB225_231.out
      have hnb87 := NB231_241.out
      have hnc87 := NB241_231.out
      have hcz88_0 : w83.cell? ⟨gb231, 0, none⟩ = some (.int .i64 t226) := (blk_cell BK231.out 0).trans rfl
      have hcz88_1 : w83.cell? ⟨gb231, 1, none⟩ = some (.int .i64 t227) := (blk_cell BK231.out 1).trans rfl
      have hcz88_2 : w83.cell? ⟨gb231, 2, none⟩ = some (.slice Ao41 t228.length co41) := (blk_cell BK231.out 2).trans rfl
      have hfz88_0 := blk_frozen BK231.out 0
      have hfz88_1 := blk_frozen BK231.out 1
      have hfz88_2 := blk_frozen BK231.out 2
      go_upto_region 14 with (first | ((with_reducible refine gate_callee (f := 13) rfl ?_); refine goesL_ (some 54) rfl rfl Try.func13 (by kernel_rfl) rfl #[.agg #[.int .i64 t226, .int .i64 t227, .slice Ao41 t228.length co41], .int .i64 1] rfl (by (try simp only [List.map_toArray, List.map_cons, List.map_nil]); first | done | rfl | (simp only [List.length_drop, List.length_take]; rfl)) ?_; (with_reducible refine (laws_markPuzzle.calls kj15 t226 t227 (fun k_ => some k_ = (.slice Ao41 t228.length co41 : Value).ownBlock) (.slice Ao41 t228.length co41) t228 1 t249 t250 w _ ?side1 ?side2 A78.out).mono ?_); (case side1 => repeat (first | (with_reducible first | exact HB.out | apply below_alloc | apply pw_below_drewN | apply below_drew1 | refine below_setA ?_ (by assumption)) | exact HB.out)); (case side2 => exact Kd.R_tight rfl HO_232002.out); rintro e w89 ⟨rfl, hy0, hb, hkp⟩; refine ⟨_, rfl, ?_⟩; replace HO_226002 := As_ (Kd.R_mono (ok' := fun k_ => some k_ ≠ (.slice Ao41 t228.length co41 : Value).ownBlock ∧ some k_ ≠ (.slice Ao50 t237.length co50 : Value).ownBlock ∧ some k_ ≠ (.slice Ao82 t245.length co82 : Value).ownBlock) (Kd.R_keptB (HO_226002.out) hkp (fun k_ hk_ hs_ => (hk_.1.1) hs_)) (fun k_ hk_ => ⟨hk_.1.1.1, hk_.1.1.2, hk_.1.2⟩)); replace HO_242002 := As_ (Kd.R_mono (ok' := fun k_ => some k_ ≠ (.slice Ao31 t221.length co31 : Value).ownBlock ∧ some k_ ≠ (.slice Ao41 t228.length co41 : Value).ownBlock ∧ some k_ ≠ (.slice Ao82 t245.length co82 : Value).ownBlock) (Kd.R_keptB (HO_242002.out) hkp (fun k_ hk_ hs_ => (hk_.1.2) hs_)) (fun k_ hk_ => ⟨hk_.1.1.1, hk_.1.1.2, hk_.1.2⟩)); replace BK208 := As_ (blk_kept BK208.out hkp (fun hs_ => (fun e_ => (Kd.R_ne HO_232002.out BK208.out (by decide)) e_) hs_)); replace BK209 := As_ (blk_kept BK209.out hkp (fun hs_ => (fun e_ => (Kd.R_ne HO_232002.out BK209.out (by decide)) e_) hs_)); replace BK225 := As_ (blk_kept BK225.out hkp (fun hs_ => (fun e_ => (Kd.R_ne HO_232002.out BK225.out (by decide)) e_) hs_)); replace BK231 := As_ (blk_kept BK231.out hkp (fun hs_ => (fun e_ => (Kd.R_ne HO_232002.out BK231.out (by decide)) e_) hs_)); replace BK241 := As_ (blk_kept BK241.out hkp (fun hs_ => (fun e_ => (Kd.R_ne HO_232002.out BK241.out (by decide)) e_) hs_)); replace HO_232002 := As_ (Kd.R_reok rfl hy0 (fun k_ e_ => HO_232002.out.1 k_ e_)); replace HO247 := As_ (Kd.R_mono (ok' := fun k_ => some k_ ≠ (.slice Ao31 t221.length co31 : Value).ownBlock ∧ some k_ ≠ (.slice Ao41 t228.length co41 : Value).ownBlock ∧ some k_ ≠ (.slice Ao50 t237.length co50 : Value).ownBlock) (Kd.R_keptB (HO247.out) hkp (fun k_ hk_ hs_ => (hk_.1.2) hs_)) (fun k_ hk_ => ⟨hk_.1.1.1.2, hk_.1.1.2, hk_.1.2⟩)); replace HB := As_ (hb); (try clear hb); (try clear hkp); (try clear hy0)))
      (try simp only [Act.put, List.setIfInBounds_toArray, List.set_cons_zero, List.set_cons_succ])
      go_cut [67] (fun v67 wc => ∃ (kq : Nat) (x67_78 : Bool), v67 = .bool x67_78 ∧ Aside0 (laws_FnExactAddClue.j1 kq t224 x67_78 a0_0 a0_1 l0_2 a1_0 a1_1 a1_2 t219 t220 t221 t235 t236 t237 = some r) ∧ Aside0 (kq ≤ kj15) ∧ Aside0 (Kd.R k34 34 wc w.heap.size (fun k_ => some k_ ≠ ((.slice Ao41 t228.length co41) : Value).ownBlock ∧ some k_ ≠ ((.slice Ao50 t237.length co50) : Value).ownBlock) (.slice Ao31 t221.length co31) t221) ∧ Aside0 (Kd.R k34 34 wc w.heap.size (fun k_ => some k_ ≠ ((.slice Ao31 t221.length co31) : Value).ownBlock ∧ some k_ ≠ ((.slice Ao50 t237.length co50) : Value).ownBlock) (.slice Ao41 t228.length co41) t250) ∧ Aside0 (Kd.R k34 34 wc w.heap.size (fun k_ => some k_ ≠ ((.slice Ao31 t221.length co31) : Value).ownBlock ∧ some k_ ≠ ((.slice Ao41 t228.length co41) : Value).ownBlock) (.slice Ao50 t237.length co50) t237) ∧ Aside0 (wc.heap[gb208]? = some (.cells #[.int .i64 a0_0, .int .i64 a0_1, (.slice A0_2 l0_2.length c0_2)] 24 (0, 0))) ∧ Aside0 (wc.heap[gb209]? = some (.cells #[.int .i64 a1_0, .int .i64 a1_1, .int .i64 a1_2] 26 (0, 0))) ∧ Aside0 (wc.heap[gb225]? = some (.cells #[.int .i64 t219, .int .i64 t220, (.slice Ao31 t221.length co31)] 30 (0, 0))) ∧ Aside0 (wc.heap[gb231]? = some (.cells #[.int .i64 t226, .int .i64 t227, (.slice Ao41 t228.length co41)] 30 (0, 0))) ∧ Aside0 (wc.heap[gb241]? = some (.cells #[.int .i64 t235, .int .i64 t236, (.slice Ao50 t237.length co50)] 30 (0, 0))) ∧ Aside0 (Below w.heap.size w wc))
      case first =>
        have H := HC79.out
        clear HC79
        by_cases c90 : t249 < 0
        · rw [if_pos c90] at H
          have c90b0 : decide (t249 < 0) = true := decide_eq_true c90
          clear c90
          (first | rw [c90b0] | (simp only [i64_w, i32_w]; rw [c90b0]) | skip)
          have H' := As_ H
          clear H
          go_wp2
          go_meet
          case rel => exact ⟨_, (true), (by first | rfl | (simp; done) | (simp [*]; done)), H', ⟨by have := HJ15.out; first | omega | exact Nat.le_refl _⟩, ⟨by (with_reducible repeat (first | apply Kd.R_alloc | apply Kd.R_drewN | apply Kd.R_drew)); exact Kd.R_mono HO_226002.out (fun _ hk => ⟨hk.1, hk.2.1⟩)⟩, ⟨by (with_reducible repeat (first | apply Kd.R_alloc | apply Kd.R_drewN | apply Kd.R_drew)); exact Kd.R_mono HO_232002.out (fun _ hk => ⟨hk.1.1, hk.1.2⟩)⟩, ⟨by (with_reducible repeat (first | apply Kd.R_alloc | apply Kd.R_drewN | apply Kd.R_drew)); exact Kd.R_mono HO_242002.out (fun _ hk => ⟨hk.1, hk.2.1⟩)⟩, ⟨by (with_reducible repeat (first | refine blk_drewN ?_ _ | refine blk_drew ?_ | refine blk_alloc ?_ _)); exact BK208.out⟩, ⟨by (with_reducible repeat (first | refine blk_drewN ?_ _ | refine blk_drew ?_ | refine blk_alloc ?_ _)); exact BK209.out⟩, ⟨by (with_reducible repeat (first | refine blk_drewN ?_ _ | refine blk_drew ?_ | refine blk_alloc ?_ _)); exact BK225.out⟩, ⟨by (with_reducible repeat (first | refine blk_drewN ?_ _ | refine blk_drew ?_ | refine blk_alloc ?_ _)); exact BK231.out⟩, ⟨by (with_reducible repeat (first | refine blk_drewN ?_ _ | refine blk_drew ?_ | refine blk_alloc ?_ _)); exact BK241.out⟩, ⟨by repeat (first | (with_reducible first | exact HB.out | apply below_alloc | apply pw_below_drewN | apply below_drew1 | refine below_setA ?_ (by assumption)) | exact HB.out)⟩⟩
        · rw [if_neg c90] at H
          have c90b0 : decide (t249 < 0) = false := decide_eq_false c90
          clear c90
          (first | rw [c90b0] | (simp only [i64_w, i32_w]; rw [c90b0]) | skip)
          replace H := Option.bind_eq_some_iff.mp H
          obtain ⟨t251, A910, H⟩ := H
          try dsimp only at H
          have A91 := As_ A910
          clear A910
          by_cases c92 : t251 = true
          · subst c92
            have H1 : (laws_FnExactAddClue.j1 kj15 t224 (t240 != t224) a0_0 a0_1 l0_2 a1_0 a1_1 a1_2 t219 t220 t221 t235 t236 t237) = some r := by rw [if_pos rfl] at H; exact H
            clear H
            have H := H1
            clear H1
            have H' := As_ H
            clear H
            have hnb93 := NB241_208.out
            have hnc93 := NB208_241.out
            have hnb94 := NB241_209.out
            have hnc94 := NB209_241.out
            have hnb95 := NB241_225.out
            have hnc95 := NB225_241.out
            have hnb96 := NB241_231.out
            have hnc96 := NB231_241.out
            have hcz97_0 : w89.cell? ⟨gb241, 0, none⟩ = some (.int .i64 t235) := (blk_cell BK241.out 0).trans rfl
            have hcz97_1 : w89.cell? ⟨gb241, 1, none⟩ = some (.int .i64 t236) := (blk_cell BK241.out 1).trans rfl
            have hcz97_2 : w89.cell? ⟨gb241, 2, none⟩ = some (.slice Ao50 t237.length co50) := (blk_cell BK241.out 2).trans rfl
            have hfz97_0 := blk_frozen BK241.out 0
            have hfz97_1 := blk_frozen BK241.out 1
            have hfz97_2 := blk_frozen BK241.out 2
            have hnb98 := NB225_208.out
            have hnc98 := NB208_225.out
            have hnb99 := NB225_209.out
            have hnc99 := NB209_225.out
            have hnb100 := NB225_231.out
            have hnc100 := NB231_225.out
            have hcz101_0 : w89.cell? ⟨gb225, 0, none⟩ = some (.int .i64 t219) := (blk_cell BK225.out 0).trans rfl
            have hcz101_1 : w89.cell? ⟨gb225, 1, none⟩ = some (.int .i64 t220) := (blk_cell BK225.out 1).trans rfl
            have hcz101_2 : w89.cell? ⟨gb225, 2, none⟩ = some (.slice Ao31 t221.length co31) := (blk_cell BK225.out 2).trans rfl
            have hfz101_0 := blk_frozen BK225.out 0
            have hfz101_1 := blk_frozen BK225.out 1
            have hfz101_2 := blk_frozen BK225.out 2
            go_wp2_with (first | (go_at_call 12; (with_reducible refine (laws_eqPuzzle.calls kj15 t235 t236 _ _ t237 t219 t220 _ _ t221 true _ ?side1 ?side2 ?side3 ?side4 A91.out).mono ?_); (case side1 => repeat (first | exact (Kd.R_reads' HO_242002.out).2.2 | (with_reducible refine Kd.C_alloc ?_ _) | (with_reducible refine Kd.C_drewN ?_ _) | (with_reducible refine Kd.C_drew ?_))); (case side2 => exact (Kd.R_reads' HO_242002.out).2.1); (case side3 => repeat (first | exact (Kd.R_reads' HO_226002.out).2.2 | (with_reducible refine Kd.C_alloc ?_ _) | (with_reducible refine Kd.C_drewN ?_ _) | (with_reducible refine Kd.C_drew ?_))); (case side4 => exact (Kd.R_reads' HO_226002.out).2.1); rintro e w102 ⟨rfl, hb⟩; replace HO_226002 := As_ (Kd.R_below (by (with_reducible repeat (first | apply Kd.R_alloc | apply Kd.R_drewN | apply Kd.R_drew)); exact HO_226002.out) hb); replace HO_232002 := As_ (Kd.R_below (by (with_reducible repeat (first | apply Kd.R_alloc | apply Kd.R_drewN | apply Kd.R_drew)); exact HO_232002.out) hb); replace HO_242002 := As_ (Kd.R_below (by (with_reducible repeat (first | apply Kd.R_alloc | apply Kd.R_drewN | apply Kd.R_drew)); exact HO_242002.out) hb); replace HO247 := As_ (Kd.R_below (by (with_reducible repeat (first | apply Kd.R_alloc | apply Kd.R_drewN | apply Kd.R_drew)); exact HO247.out) hb); replace BK208 := As_ (blk_b hb BK208.out); replace BK209 := As_ (blk_b hb BK209.out); replace BK225 := As_ (blk_b hb BK225.out); replace BK231 := As_ (blk_b hb BK231.out); replace BK241 := As_ (blk_b hb BK241.out); replace HB := As_ (below_step (by repeat (first | (with_reducible first | exact HB.out | apply below_alloc | apply pw_below_drewN | apply below_drew1 | refine below_setA ?_ (by assumption)) | exact HB.out)) hb); (try clear hb)))
            go_meet
            case rel => exact ⟨_, ((t240 != t224)), (by first | rfl | (simp; done) | (simp [*]; done)), H', ⟨by have := HJ15.out; first | omega | exact Nat.le_refl _⟩, ⟨by (with_reducible repeat (first | apply Kd.R_alloc | apply Kd.R_drewN | apply Kd.R_drew)); exact Kd.R_mono HO_226002.out (fun _ hk => ⟨hk.1, hk.2.1⟩)⟩, ⟨by (with_reducible repeat (first | apply Kd.R_alloc | apply Kd.R_drewN | apply Kd.R_drew)); exact Kd.R_mono HO_232002.out (fun _ hk => ⟨hk.1.1, hk.1.2⟩)⟩, ⟨by (with_reducible repeat (first | apply Kd.R_alloc | apply Kd.R_drewN | apply Kd.R_drew)); exact Kd.R_mono HO_242002.out (fun _ hk => ⟨hk.1, hk.2.1⟩)⟩, ⟨by (with_reducible repeat (first | refine blk_drewN ?_ _ | refine blk_drew ?_ | refine blk_alloc ?_ _)); exact BK208.out⟩, ⟨by (with_reducible repeat (first | refine blk_drewN ?_ _ | refine blk_drew ?_ | refine blk_alloc ?_ _)); exact BK209.out⟩, ⟨by (with_reducible repeat (first | refine blk_drewN ?_ _ | refine blk_drew ?_ | refine blk_alloc ?_ _)); exact BK225.out⟩, ⟨by (with_reducible repeat (first | refine blk_drewN ?_ _ | refine blk_drew ?_ | refine blk_alloc ?_ _)); exact BK231.out⟩, ⟨by (with_reducible repeat (first | refine blk_drewN ?_ _ | refine blk_drew ?_ | refine blk_alloc ?_ _)); exact BK241.out⟩, ⟨by repeat (first | (with_reducible first | exact HB.out | apply below_alloc | apply pw_below_drewN | apply below_drew1 | refine below_setA ?_ (by assumption)) | exact HB.out)⟩⟩
          · replace c92 := Bool.eq_false_iff.mpr c92
            subst c92
            have H1 : (laws_FnExactAddClue.j1 kj15 t224 true a0_0 a0_1 l0_2 a1_0 a1_1 a1_2 t219 t220 t221 t235 t236 t237) = some r := by rw [if_neg (show ¬ (false = true) by decide)] at H; exact H
            clear H
            have H := H1
            clear H1
            have H' := As_ H
            clear H
            have hnb103 := NB241_208.out
            have hnc103 := NB208_241.out
            have hnb104 := NB241_209.out
            have hnc104 := NB209_241.out
            have hnb105 := NB241_225.out
            have hnc105 := NB225_241.out
            have hnb106 := NB241_231.out
            have hnc106 := NB231_241.out
            have hcz107_0 : w89.cell? ⟨gb241, 0, none⟩ = some (.int .i64 t235) := (blk_cell BK241.out 0).trans rfl
            have hcz107_1 : w89.cell? ⟨gb241, 1, none⟩ = some (.int .i64 t236) := (blk_cell BK241.out 1).trans rfl
            have hcz107_2 : w89.cell? ⟨gb241, 2, none⟩ = some (.slice Ao50 t237.length co50) := (blk_cell BK241.out 2).trans rfl
            have hfz107_0 := blk_frozen BK241.out 0
            have hfz107_1 := blk_frozen BK241.out 1
            have hfz107_2 := blk_frozen BK241.out 2
            have hnb108 := NB225_208.out
            have hnc108 := NB208_225.out
            have hnb109 := NB225_209.out
            have hnc109 := NB209_225.out
            have hnb110 := NB225_231.out
            have hnc110 := NB231_225.out
            have hcz111_0 : w89.cell? ⟨gb225, 0, none⟩ = some (.int .i64 t219) := (blk_cell BK225.out 0).trans rfl
            have hcz111_1 : w89.cell? ⟨gb225, 1, none⟩ = some (.int .i64 t220) := (blk_cell BK225.out 1).trans rfl
            have hcz111_2 : w89.cell? ⟨gb225, 2, none⟩ = some (.slice Ao31 t221.length co31) := (blk_cell BK225.out 2).trans rfl
            have hfz111_0 := blk_frozen BK225.out 0
            have hfz111_1 := blk_frozen BK225.out 1
            have hfz111_2 := blk_frozen BK225.out 2
            go_wp2_with (first | (go_at_call 12; (with_reducible refine (laws_eqPuzzle.calls kj15 t235 t236 _ _ t237 t219 t220 _ _ t221 false _ ?side1 ?side2 ?side3 ?side4 A91.out).mono ?_); (case side1 => repeat (first | exact (Kd.R_reads' HO_242002.out).2.2 | (with_reducible refine Kd.C_alloc ?_ _) | (with_reducible refine Kd.C_drewN ?_ _) | (with_reducible refine Kd.C_drew ?_))); (case side2 => exact (Kd.R_reads' HO_242002.out).2.1); (case side3 => repeat (first | exact (Kd.R_reads' HO_226002.out).2.2 | (with_reducible refine Kd.C_alloc ?_ _) | (with_reducible refine Kd.C_drewN ?_ _) | (with_reducible refine Kd.C_drew ?_))); (case side4 => exact (Kd.R_reads' HO_226002.out).2.1); rintro e w112 ⟨rfl, hb⟩; replace HO_226002 := As_ (Kd.R_below (by (with_reducible repeat (first | apply Kd.R_alloc | apply Kd.R_drewN | apply Kd.R_drew)); exact HO_226002.out) hb); replace HO_232002 := As_ (Kd.R_below (by (with_reducible repeat (first | apply Kd.R_alloc | apply Kd.R_drewN | apply Kd.R_drew)); exact HO_232002.out) hb); replace HO_242002 := As_ (Kd.R_below (by (with_reducible repeat (first | apply Kd.R_alloc | apply Kd.R_drewN | apply Kd.R_drew)); exact HO_242002.out) hb); replace HO247 := As_ (Kd.R_below (by (with_reducible repeat (first | apply Kd.R_alloc | apply Kd.R_drewN | apply Kd.R_drew)); exact HO247.out) hb); replace BK208 := As_ (blk_b hb BK208.out); replace BK209 := As_ (blk_b hb BK209.out); replace BK225 := As_ (blk_b hb BK225.out); replace BK231 := As_ (blk_b hb BK231.out); replace BK241 := As_ (blk_b hb BK241.out); replace HB := As_ (below_step (by repeat (first | (with_reducible first | exact HB.out | apply below_alloc | apply pw_below_drewN | apply below_drew1 | refine below_setA ?_ (by assumption)) | exact HB.out)) hb); (try clear hb)))
            go_meet
            case rel => exact ⟨_, (true), (by first | rfl | (simp; done) | (simp [*]; done)), H', ⟨by have := HJ15.out; first | omega | exact Nat.le_refl _⟩, ⟨by (with_reducible repeat (first | apply Kd.R_alloc | apply Kd.R_drewN | apply Kd.R_drew)); exact Kd.R_mono HO_226002.out (fun _ hk => ⟨hk.1, hk.2.1⟩)⟩, ⟨by (with_reducible repeat (first | apply Kd.R_alloc | apply Kd.R_drewN | apply Kd.R_drew)); exact Kd.R_mono HO_232002.out (fun _ hk => ⟨hk.1.1, hk.1.2⟩)⟩, ⟨by (with_reducible repeat (first | apply Kd.R_alloc | apply Kd.R_drewN | apply Kd.R_drew)); exact Kd.R_mono HO_242002.out (fun _ hk => ⟨hk.1, hk.2.1⟩)⟩, ⟨by (with_reducible repeat (first | refine blk_drewN ?_ _ | refine blk_drew ?_ | refine blk_alloc ?_ _)); exact BK208.out⟩, ⟨by (with_reducible repeat (first | refine blk_drewN ?_ _ | refine blk_drew ?_ | refine blk_alloc ?_ _)); exact BK209.out⟩, ⟨by (with_reducible repeat (first | refine blk_drewN ?_ _ | refine blk_drew ?_ | refine blk_alloc ?_ _)); exact BK225.out⟩, ⟨by (with_reducible repeat (first | refine blk_drewN ?_ _ | refine blk_drew ?_ | refine blk_alloc ?_ _)); exact BK231.out⟩, ⟨by (with_reducible repeat (first | refine blk_drewN ?_ _ | refine blk_drew ?_ | refine blk_alloc ?_ _)); exact BK241.out⟩, ⟨by repeat (first | (with_reducible first | exact HB.out | apply below_alloc | apply pw_below_drewN | apply below_drew1 | refine below_setA ?_ (by assumption)) | exact HB.out)⟩⟩
      case rest =>
        clear HC79
        try clear c1; try clear p2; try clear c5; try clear c6; try clear c7; try clear c8; try clear c9; try clear c10; try clear c11; try clear c12; try clear c13; try clear c53; try clear c54; try clear c55; try clear c56; try clear c57; try clear c59; try clear c60; try clear c61; try clear c64; try clear c65; try clear c66; try clear c67; try clear c69; try clear c70; try clear c71; try clear c74; try clear c77; try clear c84; try clear c85; try clear c86; try clear c87; try clear c90; try clear c90b0; try clear c92; try clear c93; try clear c94; try clear c95; try clear c96; try clear c98; try clear c99; try clear c100; try clear c103; try clear c104; try clear c105; try clear c106; try clear c108; try clear c109; try clear c110; try clear hcz101_0; try clear hcz101_1; try clear hcz101_2; try clear hcz107_0; try clear hcz107_1; try clear hcz107_2; try clear hcz111_0; try clear hcz111_1; try clear hcz111_2; try clear hcz58_0; try clear hcz58_1; try clear hcz58_2; try clear hcz62_0; try clear hcz62_1; try clear hcz62_2; try clear hcz68_0; try clear hcz68_1; try clear hcz68_2; try clear hcz72_0; try clear hcz72_1; try clear hcz72_2; try clear hcz88_0; try clear hcz88_1; try clear hcz88_2; try clear hcz97_0; try clear hcz97_1; try clear hcz97_2; try clear hfz101_0; try clear hfz101_1; try clear hfz101_2; try clear hfz107_0; try clear hfz107_1; try clear hfz107_2; try clear hfz111_0; try clear hfz111_1; try clear hfz111_2; try clear hfz58_0; try clear hfz58_1; try clear hfz58_2; try clear hfz62_0; try clear hfz62_1; try clear hfz62_2; try clear hfz68_0; try clear hfz68_1; try clear hfz68_2; try clear hfz72_0; try clear hfz72_1; try clear hfz72_2; try clear hfz88_0; try clear hfz88_1; try clear hfz88_2; try clear hfz97_0; try clear hfz97_1; try clear hfz97_2; try clear p2
        obtain ⟨kq, x67_78, rfl, HA, HJ78, HO_226002, HO_232002, HO_242002, BK208, BK209, BK225, BK231, BK241, HB⟩ := hcut
        have hl232002_78 := (Kd.R_reads' HO_232002.out).1
        rw [hl232002_78] at HO_232002
        (try simp only [hl232002_78])
        (try simp only [hl232002_78] at BK208)
        (try simp only [hl232002_78] at BK209)
        (try simp only [hl232002_78] at BK225)
        (try simp only [hl232002_78] at BK231)
        (try simp only [hl232002_78] at BK241)
        (try simp only [hl232002_78] at HO_226002)
        (try simp only [hl232002_78] at HO_242002)
        rcases kq with _ | kj78
        · exact absurd HA.out (by simp [laws_FnExactAddClue.j1])
        have H := HA.out
        clear HA
        simp only [laws_FnExactAddClue.j1] at H
        by_cases c113 : x67_78 = true
        · subst c113
          have H1 : (none) = some r := by rw [if_pos rfl] at H; exact H
          clear H
          have H := H1
          clear H1
          exact absurd H (by simp)
        replace c113 := Bool.eq_false_iff.mpr c113
        subst c113
        have H1 : ((laws_markPuzzle.f kj78 t235 t236 t237 1).bind fun bt252 => ((laws_heldPuzzle.f kj78 t235 t236 bt252.2 1).bind fun t254 => (if t254 < 0 then (none) else (if t254 = bt252.1 then ((laws_toPuzzle.f kj78 a0_0 a0_1 l0_2).bind fun bt255 => ((laws_toClue.f a1_0 a1_1 a1_2).bind fun bt260 => ((impl_AddClue.f bt255.1 bt255.2.1 bt255.2.2 bt260.1 bt260.2.1 bt260.2.2).bind fun bt263 => ((laws_eqPuzzle.f kj78 bt263.1 bt263.2.1 bt263.2.2.1 t219 t220 t221).bind fun t270 => (if t270 = true then (laws_FnExactAddClue.j2 kj78 bt252.1 (bt263.2.2.2 != t224) t235 t236 bt252.2) else (laws_FnExactAddClue.j2 kj78 bt252.1 true t235 t236 bt252.2)))))) else (none))))) = some r := by rw [if_neg (show ¬ (false = true) by decide)] at H; exact H
        clear H
        have H := H1
        clear H1
        replace H := Option.bind_eq_some_iff.mp H
        obtain ⟨⟨t252, t253⟩, A1140, H⟩ := H
        try dsimp only at H
        have A114 := As_ A1140
        clear A1140
        replace H := Option.bind_eq_some_iff.mp H
        obtain ⟨t254, A1150, H⟩ := H
        try dsimp only at H
        have A115 := As_ A1150
        clear A1150
        by_cases c116 : t254 < 0
        · rw [if_pos c116] at H; exact absurd H (by simp)
        rw [if_neg c116] at H
        have c116b0 : decide (t254 < 0) = false := decide_eq_false c116
        clear c116
        by_cases c117 : t254 = t252
        case neg => rw [if_neg c117] at H; exact absurd H (by simp)
        rw [if_pos c117] at H
        have c117b0 : (t254 == t252) = true := beq_iff_eq.mpr c117
        have c117b1 : (t254 != t252) = false := bne_eq_false_iff_eq.mpr c117
        clear c117
        replace H := Option.bind_eq_some_iff.mp H
        obtain ⟨⟨t255, t256, t257⟩, A1180, H⟩ := H
        try dsimp only at H
        have A118 := As_ A1180
        clear A1180
        replace H := Option.bind_eq_some_iff.mp H
        obtain ⟨⟨t260, t261, t262⟩, A1190, H⟩ := H
        try dsimp only at H
        have A119 := As_ A1190
        clear A1190
        replace H := Option.bind_eq_some_iff.mp H
        obtain ⟨⟨t263, t264, t265, t268⟩, A1200, H⟩ := H
        try dsimp only at H
        have A120 := As_ A1200
        clear A1200
        have HC121 := As_ H
        clear H
        have hnb122 := NB241_208.out
        have hnc122 := NB208_241.out
        have hnb123 := NB241_209.out
        have hnc123 := NB209_241.out
        have hnb124 := NB241_225.out
        have hnc124 := NB225_241.out
        have hnb125 := NB241_231.out
        have hnc125 := NB231_241.out
        have hcz126_0 : wc.cell? ⟨gb241, 0, none⟩ = some (.int .i64 t235) := (blk_cell BK241.out 0).trans rfl
        have hcz126_1 : wc.cell? ⟨gb241, 1, none⟩ = some (.int .i64 t236) := (blk_cell BK241.out 1).trans rfl
        have hcz126_2 : wc.cell? ⟨gb241, 2, none⟩ = some (.slice Ao50 t237.length co50) := (blk_cell BK241.out 2).trans rfl
        have hfz126_0 := blk_frozen BK241.out 0
        have hfz126_1 := blk_frozen BK241.out 1
        have hfz126_2 := blk_frozen BK241.out 2
        try go_wp2_with (first | ((with_reducible refine gate_callee (f := 13) rfl ?_); refine goesL_ (some 70) rfl rfl Try.func13 (by kernel_rfl) rfl #[.agg #[.int .i64 t235, .int .i64 t236, .slice Ao50 t237.length co50], .int .i64 1] rfl (by (try simp only [List.map_toArray, List.map_cons, List.map_nil]); first | done | rfl | (simp only [List.length_drop, List.length_take]; rfl)) ?_; (with_reducible refine (laws_markPuzzle.calls kj78 t235 t236 (fun k_ => some k_ = (.slice Ao50 t237.length co50 : Value).ownBlock) (.slice Ao50 t237.length co50) t237 1 t252 t253 w _ ?side1 ?side2 A114.out).mono ?_); (case side1 => repeat (first | (with_reducible first | exact HB.out | apply below_alloc | apply pw_below_drewN | apply below_drew1 | refine below_setA ?_ (by assumption)) | exact HB.out)); (case side2 => exact Kd.R_tight rfl HO_242002.out); rintro e w127 ⟨rfl, hy0, hb, hkp⟩; refine ⟨_, rfl, ?_⟩; replace HO_226002 := As_ (Kd.R_mono (ok' := fun k_ => some k_ ≠ (.slice Ao41 t250.length co41 : Value).ownBlock ∧ some k_ ≠ (.slice Ao50 t237.length co50 : Value).ownBlock) (Kd.R_keptB (HO_226002.out) hkp (fun k_ hk_ hs_ => (hk_.2) hs_)) (fun k_ hk_ => ⟨hk_.1.1, hk_.1.2⟩)); replace HO_232002 := As_ (Kd.R_mono (ok' := fun k_ => some k_ ≠ (.slice Ao31 t221.length co31 : Value).ownBlock ∧ some k_ ≠ (.slice Ao50 t237.length co50 : Value).ownBlock) (Kd.R_keptB (HO_232002.out) hkp (fun k_ hk_ hs_ => (hk_.2) hs_)) (fun k_ hk_ => ⟨hk_.1.1, hk_.1.2⟩)); replace BK208 := As_ (blk_kept BK208.out hkp (fun hs_ => (fun e_ => (Kd.R_ne HO_242002.out BK208.out (by decide)) e_) hs_)); replace BK209 := As_ (blk_kept BK209.out hkp (fun hs_ => (fun e_ => (Kd.R_ne HO_242002.out BK209.out (by decide)) e_) hs_)); replace BK225 := As_ (blk_kept BK225.out hkp (fun hs_ => (fun e_ => (Kd.R_ne HO_242002.out BK225.out (by decide)) e_) hs_)); replace BK231 := As_ (blk_kept BK231.out hkp (fun hs_ => (fun e_ => (Kd.R_ne HO_242002.out BK231.out (by decide)) e_) hs_)); replace BK241 := As_ (blk_kept BK241.out hkp (fun hs_ => (fun e_ => (Kd.R_ne HO_242002.out BK241.out (by decide)) e_) hs_)); replace HO_242002 := As_ (Kd.R_reok rfl hy0 (fun k_ e_ => HO_242002.out.1 k_ e_)); replace HB := As_ (hb); (try clear hb); (try clear hkp); (try clear hy0); have hcz128_0 : w127.cell? ⟨gb241, 0, none⟩ = some (.int .i64 t235) := (blk_cell BK241.out 0).trans rfl; have hcz128_1 : w127.cell? ⟨gb241, 1, none⟩ = some (.int .i64 t236) := (blk_cell BK241.out 1).trans rfl; have hcz128_2 : w127.cell? ⟨gb241, 2, none⟩ = some (.slice Ao50 t237.length co50) := (blk_cell BK241.out 2).trans rfl; have hfz128_0 := blk_frozen BK241.out 0; have hfz128_1 := blk_frozen BK241.out 1; have hfz128_2 := blk_frozen BK241.out 2) | ((with_reducible refine gate_callee (f := 14) rfl ?_); refine goesL_ (some 73) rfl rfl Try.func14 (by kernel_rfl) rfl #[.agg #[.int .i64 t235, .int .i64 t236, .slice Ao50 t253.length co50], .int .i64 1] rfl (by (try simp only [List.map_toArray, List.map_cons, List.map_nil]); first | done | (rw [show t253.length = t237.length from (Kd.R_reads' HO_242002.out).1.symm] <;> rfl) | rfl | (simp only [List.length_drop, List.length_take]; rfl)) ?_; (with_reducible refine (laws_heldPuzzle.calls kj78 t235 t236 _ _ t253 1 t254 _ ?side1 ?side2 A115.out).mono ?_); (case side1 => repeat (first | exact (Kd.R_reads' HO_242002.out).2.2 | (with_reducible refine Kd.C_alloc ?_ _) | (with_reducible refine Kd.C_drewN ?_ _) | (with_reducible refine Kd.C_drew ?_))); (case side2 => rw [show t253.length = t237.length from (Kd.R_reads' HO_242002.out).1.symm]; exact (Kd.R_reads' HO_242002.out).2.1); rintro e w129 ⟨rfl, hb⟩; refine ⟨_, rfl, ?_⟩; replace HO_226002 := As_ (Kd.R_below (by (with_reducible repeat (first | apply Kd.R_alloc | apply Kd.R_drewN | apply Kd.R_drew)); exact HO_226002.out) hb); replace HO_232002 := As_ (Kd.R_below (by (with_reducible repeat (first | apply Kd.R_alloc | apply Kd.R_drewN | apply Kd.R_drew)); exact HO_232002.out) hb); replace HO_242002 := As_ (Kd.R_below (by (with_reducible repeat (first | apply Kd.R_alloc | apply Kd.R_drewN | apply Kd.R_drew)); exact HO_242002.out) hb); replace BK208 := As_ (blk_b hb BK208.out); replace BK209 := As_ (blk_b hb BK209.out); replace BK225 := As_ (blk_b hb BK225.out); replace BK231 := As_ (blk_b hb BK231.out); replace BK241 := As_ (blk_b hb BK241.out); replace HB := As_ (below_step (by repeat (first | (with_reducible first | exact HB.out | apply below_alloc | apply pw_below_drewN | apply below_drew1 | refine below_setA ?_ (by assumption)) | exact HB.out)) hb); (try clear hb)))
        replace HO_226002 := As_ (Kd.R_drew HO_226002.out)
        replace HO_232002 := As_ (Kd.R_drew HO_232002.out)
        replace HO_242002 := As_ (Kd.R_drew HO_242002.out)
        replace BK208 := As_ (blk_drew BK208.out)
        replace BK209 := As_ (blk_drew BK209.out)
        replace BK225 := As_ (blk_drew BK225.out)
        replace BK231 := As_ (blk_drew BK231.out)
        replace BK241 := As_ (blk_drew BK241.out)
        replace HB := As_ (below_drew1 HB.out)
        refine start_ (n := 11) (S := fun w' => w'.cell? ⟨gb208, 0, none⟩ = some (.int .i64 a0_0) ∧ w'.cell? ⟨gb208, 1, none⟩ = some (.int .i64 a0_1) ∧ w'.cell? ⟨gb208, 2, none⟩ = some (.slice A0_2 l0_2.length c0_2) ∧ w'.cell? ⟨gb209, 0, none⟩ = some (.int .i64 a1_0) ∧ w'.cell? ⟨gb209, 1, none⟩ = some (.int .i64 a1_1) ∧ w'.cell? ⟨gb209, 2, none⟩ = some (.int .i64 a1_2)) (ds := []) #[false, false, false, false, false, false, false, false, false, false, false] (by kernel_rfl) rfl rfl ⟨(blk_cell BK208.out 0).trans rfl, (blk_cell BK208.out 1).trans rfl, (blk_cell BK208.out 2).trans rfl, (blk_cell BK209.out 0).trans rfl, (blk_cell BK209.out 1).trans rfl, (blk_cell BK209.out 2).trans rfl⟩ (fun hHeld => ?_); refine with_tabW laws_FnExactAddClue.tab24 laws_FnExactAddClue.bits24 (fun HT_ HW_ => ?_)
        generalize w129.drew = w130 at HO_226002 HO_232002 HO_242002 BK208 BK209 BK225 BK231 BK241 HB hHeld ⊢
        refine take_ (i := 0) (N := some 80) (v := ?_) (a' := ?_) #[true, false, false, false, false, false, false, false, false, false, false] rfl rfl (take_ofW HT_.out HW_.out (by kernel_rfl)) (fun _ _ _ h => h) (Or.inl ⟨by rfl, ?_⟩) hHeld ?_ ?_
        rotate_left
        · rintro w' ⟨s0, s1, s2, s3, s4, s5⟩
          go_simp
          with_reducible rfl
        rotate_left
        · simp only [Act.put, List.setIfInBounds_toArray, List.set_cons_zero, List.set_cons_succ, i64_w, i32_w]
          rfl
        refine take_ (i := 2) (N := some 82) (v := ?_) (a' := ?_) #[true, false, true, false, false, false, false, false, false, false, false] rfl rfl (take_ofW HT_.out HW_.out (by kernel_rfl)) (fun _ _ _ h => h) (Or.inl ⟨by rfl, ?_⟩) hHeld ?_ ?_
        rotate_left
        · rintro w' ⟨s0, s1, s2, s3, s4, s5⟩
          go_simp
          with_reducible rfl
        rotate_left
        · simp only [Act.put, List.setIfInBounds_toArray, List.set_cons_zero, List.set_cons_succ, i64_w, i32_w]
          rfl
        refine join_ (σ := Value × Value × Nat) 2 #[true, true, true, true, true, true, true, true, true, false, false] (fun s_ => [(81, .agg #[.int .i64 t255, .int .i64 t256, s_.1]), (83, .agg #[.int .i64 t260, .int .i64 t261, .int .i64 t262]), (84, .tuple #[.agg #[.int .i64 t263, .int .i64 t264, s_.2.1], .bool t268]), (14, .pointer (some ⟨s_.2.2, 0, none⟩)), (79, .tuple #[.agg #[.int .i64 t263, .int .i64 t264, s_.2.1], .bool t268]), (85, .agg #[.int .i64 t263, .int .i64 t264, s_.2.1]), (86, .bool t268)]) (fun s_ w' => (w'.cell? ⟨gb208, 0, none⟩ = some (.int .i64 a0_0) ∧ w'.cell? ⟨gb208, 1, none⟩ = some (.int .i64 a0_1) ∧ w'.cell? ⟨gb208, 2, none⟩ = some (.slice A0_2 l0_2.length c0_2) ∧ w'.cell? ⟨gb209, 0, none⟩ = some (.int .i64 a1_0) ∧ w'.cell? ⟨gb209, 1, none⟩ = some (.int .i64 a1_1) ∧ w'.cell? ⟨gb209, 2, none⟩ = some (.int .i64 a1_2)) ∧ (Kd.R k34 34 w' w.heap.size (fun k_ => some k_ ≠ (s_.2.1 : Value).ownBlock ∧ some k_ ≠ (.slice Ao31 t221.length co31 : Value).ownBlock ∧ some k_ ≠ (.slice Ao41 t250.length co41 : Value).ownBlock ∧ some k_ ≠ (.slice Ao50 t237.length co50 : Value).ownBlock) s_.1 t257) ∧ (Kd.R k34 34 w' w.heap.size (fun k_ => some k_ ≠ (s_.1 : Value).ownBlock ∧ some k_ ≠ (.slice Ao31 t221.length co31 : Value).ownBlock ∧ some k_ ≠ (.slice Ao41 t250.length co41 : Value).ownBlock ∧ some k_ ≠ (.slice Ao50 t237.length co50 : Value).ownBlock) s_.2.1 t265) ∧ (Kd.R k34 34 w' w.heap.size (fun k_ => some k_ ≠ (s_.1 : Value).ownBlock ∧ some k_ ≠ (s_.2.1 : Value).ownBlock ∧ some k_ ≠ (.slice Ao41 t250.length co41 : Value).ownBlock ∧ some k_ ≠ (.slice Ao50 t237.length co50 : Value).ownBlock) (.slice Ao31 t221.length co31) t221) ∧ (Kd.R k34 34 w' w.heap.size (fun k_ => some k_ ≠ (s_.1 : Value).ownBlock ∧ some k_ ≠ (s_.2.1 : Value).ownBlock ∧ some k_ ≠ (.slice Ao31 t221.length co31 : Value).ownBlock ∧ some k_ ≠ (.slice Ao50 t237.length co50 : Value).ownBlock) (.slice Ao41 t250.length co41) t250) ∧ (Kd.R k34 34 w' w.heap.size (fun k_ => some k_ ≠ (s_.1 : Value).ownBlock ∧ some k_ ≠ (s_.2.1 : Value).ownBlock ∧ some k_ ≠ (.slice Ao31 t221.length co31 : Value).ownBlock ∧ some k_ ≠ (.slice Ao41 t250.length co41 : Value).ownBlock) (.slice Ao50 t237.length co50) t253) ∧ (w'.heap[gb208]? = some (.cells #[.int .i64 a0_0, .int .i64 a0_1, .slice A0_2 l0_2.length c0_2] 24 (0, 0))) ∧ (w'.heap[gb209]? = some (.cells #[.int .i64 a1_0, .int .i64 a1_1, .int .i64 a1_2] 26 (0, 0))) ∧ (w'.heap[gb225]? = some (.cells #[.int .i64 t219, .int .i64 t220, .slice Ao31 t221.length co31] 30 (0, 0))) ∧ (w'.heap[gb231]? = some (.cells #[.int .i64 t226, .int .i64 t227, .slice Ao41 t250.length co41] 30 (0, 0))) ∧ (w'.heap[gb241]? = some (.cells #[.int .i64 t235, .int .i64 t236, .slice Ao50 t237.length co50] 30 (0, 0))) ∧ (w'.heap[s_.2.2]? = some (.cells #[.int .i64 0, .int .i64 0, .slice none 0 0] 30 (0, 0))) ∧ (w.heap.size ≤ s_.2.2) ∧ (w.heap.size ≤ s_.2.2) ∧ (gb208 ≠ s_.2.2) ∧ (s_.2.2 ≠ gb208) ∧ (gb209 ≠ s_.2.2) ∧ (s_.2.2 ≠ gb209) ∧ (gb225 ≠ s_.2.2) ∧ (s_.2.2 ≠ gb225) ∧ (gb231 ≠ s_.2.2) ∧ (s_.2.2 ≠ gb231) ∧ (gb241 ≠ s_.2.2) ∧ (s_.2.2 ≠ gb241) ∧ (Below w.heap.size w w')) ?_ ?_
        rotate_left
        · intro hCont
          refine two_ (i := 1) (j := 8) (Ni := some 81) (Nj := some 14) #[true, true, true, false, false, false, false, false, false, false, false] #[true, false, true, false, false, false, false, false, true, false, false] rfl rfl rfl rfl (two_of HT_.out (by kernel_rfl)) (by decide) (by decide) (fun K hK => ?_) (fun K hK => ?_)
          · skip
            refine goes_ Try.func9 (by kernel_rfl) rfl #[.agg #[.int .i64 a0_0, .int .i64 a0_1, .slice A0_2 l0_2.length c0_2]] (by rfl) rfl rfl (by (try simp only [List.map_toArray, List.map_cons, List.map_nil]); first | done | rfl | (simp only [List.length_drop, List.length_take]; rfl)) ?_
            with_reducible refine (laws_toPuzzle.calls kj78 a0_0 a0_1 _ _ l0_2 t255 t256 t257 _ ?side1 ?side2 A118.out).mono ?_
            (case side1 => repeat (first | exact (Kd.C_below HR0_2.out HB.out) | (with_reducible refine Kd.C_alloc ?_ _) | (with_reducible refine Kd.C_drewN ?_ _) | (with_reducible refine Kd.C_drew ?_)))
            (case side2 => exact HC0_2.out)
            rintro e w131 ⟨v258, rfl, ho0, hb⟩
            refine ⟨_, rfl, ?_⟩
            have HO259 := As_ (Kd.R_lower (Kd.R_new' (Kd.R_new' (Kd.R_new' ho0 (Kd.R_lt (by (with_reducible repeat (first | apply Kd.R_alloc | apply Kd.R_drewN | apply Kd.R_drew)); exact HO_226002.out))) (Kd.R_lt (by (with_reducible repeat (first | apply Kd.R_alloc | apply Kd.R_drewN | apply Kd.R_drew)); exact HO_232002.out))) (Kd.R_lt (by (with_reducible repeat (first | apply Kd.R_alloc | apply Kd.R_drewN | apply Kd.R_drew)); exact HO_242002.out))) (below_size (by repeat (first | (with_reducible first | exact HB.out | apply below_alloc | apply pw_below_drewN | apply below_drew1 | refine below_setA ?_ (by assumption)) | exact HB.out))))
            replace HO_226002 := As_ (Kd.R_elder' (by (with_reducible repeat (first | apply Kd.R_alloc | apply Kd.R_drewN | apply Kd.R_drew)); exact HO_226002.out) (Kd.R_base ho0) hb)
            replace HO_232002 := As_ (Kd.R_elder' (by (with_reducible repeat (first | apply Kd.R_alloc | apply Kd.R_drewN | apply Kd.R_drew)); exact HO_232002.out) (Kd.R_base ho0) hb)
            replace HO_242002 := As_ (Kd.R_elder' (by (with_reducible repeat (first | apply Kd.R_alloc | apply Kd.R_drewN | apply Kd.R_drew)); exact HO_242002.out) (Kd.R_base ho0) hb)
            replace BK208 := As_ (blk_b hb BK208.out)
            replace BK209 := As_ (blk_b hb BK209.out)
            replace BK225 := As_ (blk_b hb BK225.out)
            replace BK231 := As_ (blk_b hb BK231.out)
            replace BK241 := As_ (blk_b hb BK241.out)
            replace HB := As_ (below_step (by repeat (first | (with_reducible first | exact HB.out | apply below_alloc | apply pw_below_drewN | apply below_drew1 | refine below_setA ?_ (by assumption)) | exact HB.out)) hb)
            (try clear hb)
            (try clear hb2)
            (try clear hk)
            (try clear hi)
            (try clear ho0)
            refine hK.out _ _ ⟨(blk_cell BK208.out 0).trans rfl, (blk_cell BK208.out 1).trans rfl, (blk_cell BK208.out 2).trans rfl, (blk_cell BK209.out 0).trans rfl, (blk_cell BK209.out 1).trans rfl, (blk_cell BK209.out 2).trans rfl⟩ (fun hHeld => ?_)
            clear hK K
            refine norm_ (a' := ?_) ?_ ?_
            rotate_left
            · show Act.put _ (some 81) _ = _
              simp only [Act.put, List.setIfInBounds_toArray, List.set_cons_zero, List.set_cons_succ, i64_w, i32_w]
              rfl
            refine two_ (i := 3) (j := 8) (Ni := some 83) (Nj := some 14) #[true, true, true, true, false, false, false, false, false, false, false] #[true, true, true, false, false, false, false, false, true, false, false] rfl rfl rfl rfl (two_of HT_.out (by kernel_rfl)) (by decide) (by decide) (fun K hK => ?_) (fun K hK => ?_)
            · skip
              refine goes_ Try.func10 (by kernel_rfl) rfl #[.agg #[.int .i64 a1_0, .int .i64 a1_1, .int .i64 a1_2]] (by rfl) rfl rfl (by (try simp only [List.map_toArray, List.map_cons, List.map_nil]); first | done | rfl | (simp only [List.length_drop, List.length_take]; rfl)) ?_
              with_reducible refine (laws_toClue.calls a1_0 a1_1 a1_2 t260 t261 t262 _ A119.out).mono ?_
              rintro e w132 ⟨rfl, hb⟩
              refine ⟨_, rfl, ?_⟩
              replace HO_226002 := As_ (Kd.R_below (by (with_reducible repeat (first | apply Kd.R_alloc | apply Kd.R_drewN | apply Kd.R_drew)); exact HO_226002.out) hb)
              replace HO_232002 := As_ (Kd.R_below (by (with_reducible repeat (first | apply Kd.R_alloc | apply Kd.R_drewN | apply Kd.R_drew)); exact HO_232002.out) hb)
              replace HO_242002 := As_ (Kd.R_below (by (with_reducible repeat (first | apply Kd.R_alloc | apply Kd.R_drewN | apply Kd.R_drew)); exact HO_242002.out) hb)
              replace HO259 := As_ (Kd.R_below (by (with_reducible repeat (first | apply Kd.R_alloc | apply Kd.R_drewN | apply Kd.R_drew)); exact HO259.out) hb)
              replace BK208 := As_ (blk_b hb BK208.out)
              replace BK209 := As_ (blk_b hb BK209.out)
              replace BK225 := As_ (blk_b hb BK225.out)
              replace BK231 := As_ (blk_b hb BK231.out)
              replace BK241 := As_ (blk_b hb BK241.out)
              replace HB := As_ (below_step (by repeat (first | (with_reducible first | exact HB.out | apply below_alloc | apply pw_below_drewN | apply below_drew1 | refine below_setA ?_ (by assumption)) | exact HB.out)) hb)
              (try clear hb)
              (try clear hb2)
              (try clear hk)
              (try clear hi)
              obtain ⟨Ao133, co133, eo133⟩ := Kd.R_slice HO259.out
              (first | subst eo133 | (injection eo133 with f1_ f2_ f3_; have f4_ := f1_.symm; have f5_ := f3_.symm; clear f1_ f2_ f3_; subst f4_; subst f5_))
              refine hK.out _ _ ⟨(blk_cell BK208.out 0).trans rfl, (blk_cell BK208.out 1).trans rfl, (blk_cell BK208.out 2).trans rfl, (blk_cell BK209.out 0).trans rfl, (blk_cell BK209.out 1).trans rfl, (blk_cell BK209.out 2).trans rfl⟩ (fun hHeld => ?_)
              clear hK K
              refine norm_ (a' := ?_) ?_ ?_
              rotate_left
              · show Act.put _ (some 83) _ = _
                simp only [Act.put, List.setIfInBounds_toArray, List.set_cons_zero, List.set_cons_succ, i64_w, i32_w]
                rfl
              refine two_ (i := 4) (j := 8) (Ni := some 84) (Nj := some 14) #[true, true, true, true, true, false, false, false, false, false, false] #[true, true, true, true, false, false, false, false, true, false, false] rfl rfl rfl rfl (two_of HT_.out (by kernel_rfl)) (by decide) (by decide) (fun K hK => ?_) (fun K hK => ?_)
              · skip
                refine goes_ Try.func11 (by kernel_rfl) rfl #[.agg #[.int .i64 t255, .int .i64 t256, .slice Ao133 t257.length co133], .agg #[.int .i64 t260, .int .i64 t261, .int .i64 t262]] (by rfl) rfl rfl (by (try simp only [List.map_toArray, List.map_cons, List.map_nil]); first | done | rfl | (simp only [List.length_drop, List.length_take]; rfl)) ?_
                with_reducible refine (impl_AddClue.calls t255 t256 _ _ t257 t260 t261 t262 t263 t264 t265 t268 _ ?side1 ?side2 A120.out).mono ?_
                (case side1 => repeat (first | exact (Kd.R_reads' HO259.out).2.2 | (with_reducible refine Kd.C_alloc ?_ _) | (with_reducible refine Kd.C_drewN ?_ _) | (with_reducible refine Kd.C_drew ?_)))
                (case side2 => exact (Kd.R_reads' HO259.out).2.1)
                rintro e w134 ⟨v266, rfl, ho0, hb⟩
                refine ⟨_, rfl, ?_⟩
                have HO267 := As_ (Kd.R_lower (Kd.R_new' (Kd.R_new' (Kd.R_new' (Kd.R_new' ho0 (Kd.R_lt (by (with_reducible repeat (first | apply Kd.R_alloc | apply Kd.R_drewN | apply Kd.R_drew)); exact HO_226002.out))) (Kd.R_lt (by (with_reducible repeat (first | apply Kd.R_alloc | apply Kd.R_drewN | apply Kd.R_drew)); exact HO_232002.out))) (Kd.R_lt (by (with_reducible repeat (first | apply Kd.R_alloc | apply Kd.R_drewN | apply Kd.R_drew)); exact HO_242002.out))) (Kd.R_lt (by (with_reducible repeat (first | apply Kd.R_alloc | apply Kd.R_drewN | apply Kd.R_drew)); exact HO259.out))) (below_size (by repeat (first | (with_reducible first | exact HB.out | apply below_alloc | apply pw_below_drewN | apply below_drew1 | refine below_setA ?_ (by assumption)) | exact HB.out))))
                replace HO_226002 := As_ (Kd.R_elder' (by (with_reducible repeat (first | apply Kd.R_alloc | apply Kd.R_drewN | apply Kd.R_drew)); exact HO_226002.out) (Kd.R_base ho0) hb)
                replace HO_232002 := As_ (Kd.R_elder' (by (with_reducible repeat (first | apply Kd.R_alloc | apply Kd.R_drewN | apply Kd.R_drew)); exact HO_232002.out) (Kd.R_base ho0) hb)
                replace HO_242002 := As_ (Kd.R_elder' (by (with_reducible repeat (first | apply Kd.R_alloc | apply Kd.R_drewN | apply Kd.R_drew)); exact HO_242002.out) (Kd.R_base ho0) hb)
                replace HO259 := As_ (Kd.R_elder' (by (with_reducible repeat (first | apply Kd.R_alloc | apply Kd.R_drewN | apply Kd.R_drew)); exact HO259.out) (Kd.R_base ho0) hb)
                replace BK208 := As_ (blk_b hb BK208.out)
                replace BK209 := As_ (blk_b hb BK209.out)
                replace BK225 := As_ (blk_b hb BK225.out)
                replace BK231 := As_ (blk_b hb BK231.out)
                replace BK241 := As_ (blk_b hb BK241.out)
                replace HB := As_ (below_step (by repeat (first | (with_reducible first | exact HB.out | apply below_alloc | apply pw_below_drewN | apply below_drew1 | refine below_setA ?_ (by assumption)) | exact HB.out)) hb)
                (try clear hb)
                (try clear hb2)
                (try clear hk)
                (try clear hi)
                (try clear ho0)
                refine hK.out _ _ ⟨(blk_cell BK208.out 0).trans rfl, (blk_cell BK208.out 1).trans rfl, (blk_cell BK208.out 2).trans rfl, (blk_cell BK209.out 0).trans rfl, (blk_cell BK209.out 1).trans rfl, (blk_cell BK209.out 2).trans rfl⟩ (fun hHeld => ?_)
                clear hK K
                refine norm_ (a' := ?_) ?_ ?_
                rotate_left
                · show Act.put _ (some 84) _ = _
                  simp only [Act.put, List.setIfInBounds_toArray, List.set_cons_zero, List.set_cons_succ, i64_w, i32_w]
                  rfl
                refine pure_ (i := 5) (N := some 79) (v := ?_) (a' := ?_) #[true, true, true, true, true, true, false, false, false, false, false] rfl rfl (any_of HT_.out (by kernel_rfl)) (fun _ _ _ h => h) (Or.inl ⟨by rfl, ?_⟩) ?_ ?_
                rotate_left
                · intro w'
                  go_simp
                  with_reducible rfl
                rotate_left
                · simp only [Act.put, List.setIfInBounds_toArray, List.set_cons_zero, List.set_cons_succ, i64_w, i32_w]
                  rfl
                refine pure_ (i := 6) (N := some 85) (v := ?_) (a' := ?_) #[true, true, true, true, true, true, true, false, false, false, false] rfl rfl (any_of HT_.out (by kernel_rfl)) (fun _ _ _ h => h) (Or.inl ⟨by rfl, ?_⟩) ?_ ?_
                rotate_left
                · intro w'
                  go_simp
                  with_reducible rfl
                rotate_left
                · simp only [Act.put, List.setIfInBounds_toArray, List.set_cons_zero, List.set_cons_succ, i64_w, i32_w]
                  rfl
                refine pure_ (i := 7) (N := some 86) (v := ?_) (a' := ?_) #[true, true, true, true, true, true, true, true, false, false, false] rfl rfl (any_of HT_.out (by kernel_rfl)) (fun _ _ _ h => h) (Or.inl ⟨by rfl, ?_⟩) ?_ ?_
                rotate_left
                · intro w'
                  go_simp
                  with_reducible rfl
                rotate_left
                · simp only [Act.put, List.setIfInBounds_toArray, List.set_cons_zero, List.set_cons_succ, i64_w, i32_w]
                  rfl
                refine one_ (i := 8) (N := some 14) #[true, true, true, true, true, true, true, true, true, false, false] rfl rfl (one_of HT_.out (by kernel_rfl)) (by decide) (fun K hK => ?_)
                refine box_step ?hg (N := 14) ?hd (cs := #[.int .i64 0, .int .i64 0, .slice none 0 0]) (t := 30) ?hr ?_; (case hd => rfl); (case hg => rfl); (case hr => first | (go_simp; done) | (go_simp; rfl))
                intro gb269 hg w135 hbox hb
                have BK269 := As_ (hbox)
                have GW269 := As_ ((by rw [hg]; exact (below_size (by repeat (first | (with_reducible first | exact HB.out | apply below_alloc | apply pw_below_drewN | apply below_drew1 | refine below_setA ?_ (by assumption)) | exact HB.out))) : w.heap.size ≤ gb269))
                have GE269 := As_ ((by rw [hg]; exact (below_size (by repeat (first | (with_reducible first | exact HB.out | apply below_alloc | apply pw_below_drewN | apply below_drew1 | refine below_setA ?_ (by assumption)) | exact HB.out))) : w.heap.size ≤ gb269))
                have NB208_269 := As_ (ne_lt hg BK208.out)
                have NB269_208 := As_ (ne_gt hg BK208.out)
                have NB209_269 := As_ (ne_lt hg BK209.out)
                have NB269_209 := As_ (ne_gt hg BK209.out)
                have NB225_269 := As_ (ne_lt hg BK225.out)
                have NB269_225 := As_ (ne_gt hg BK225.out)
                have NB231_269 := As_ (ne_lt hg BK231.out)
                have NB269_231 := As_ (ne_gt hg BK231.out)
                have NB241_269 := As_ (ne_lt hg BK241.out)
                have NB269_241 := As_ (ne_gt hg BK241.out)
                replace HO_226002 := As_ (Kd.R_below (by (with_reducible repeat (first | apply Kd.R_alloc | apply Kd.R_drewN | apply Kd.R_drew)); exact HO_226002.out) hb)
                replace HO_232002 := As_ (Kd.R_below (by (with_reducible repeat (first | apply Kd.R_alloc | apply Kd.R_drewN | apply Kd.R_drew)); exact HO_232002.out) hb)
                replace HO_242002 := As_ (Kd.R_below (by (with_reducible repeat (first | apply Kd.R_alloc | apply Kd.R_drewN | apply Kd.R_drew)); exact HO_242002.out) hb)
                replace HO259 := As_ (Kd.R_below (by (with_reducible repeat (first | apply Kd.R_alloc | apply Kd.R_drewN | apply Kd.R_drew)); exact HO259.out) hb)
                replace HO267 := As_ (Kd.R_below (by (with_reducible repeat (first | apply Kd.R_alloc | apply Kd.R_drewN | apply Kd.R_drew)); exact HO267.out) hb)
                replace BK208 := As_ (blk_b hb BK208.out)
                replace BK209 := As_ (blk_b hb BK209.out)
                replace BK225 := As_ (blk_b hb BK225.out)
                replace BK231 := As_ (blk_b hb BK231.out)
                replace BK241 := As_ (blk_b hb BK241.out)
                replace HB := As_ (below_step (by repeat (first | (with_reducible first | exact HB.out | apply below_alloc | apply pw_below_drewN | apply below_drew1 | refine below_setA ?_ (by assumption)) | exact HB.out)) hb)
                clear hb hbox hg
                refine hK.out _ _ ⟨(blk_cell BK208.out 0).trans rfl, (blk_cell BK208.out 1).trans rfl, (blk_cell BK208.out 2).trans rfl, (blk_cell BK209.out 0).trans rfl, (blk_cell BK209.out 1).trans rfl, (blk_cell BK209.out 2).trans rfl⟩ (fun hHeld => ?_)
                clear hK K
                refine norm_ (a' := ?_) ?_ ?_
                rotate_left
                · show Act.put _ (some 14) _ = _
                  simp only [Act.put, List.setIfInBounds_toArray, List.set_cons_zero, List.set_cons_succ, i64_w, i32_w]
                  rfl
                exact norm_ (by simp only [putAll, Act.put, List.setIfInBounds_toArray, List.set_cons_zero, List.set_cons_succ]) (hCont (.slice Ao133 t257.length co133, v266, gb269) _ ⟨hHeld, (by (with_reducible repeat (first | apply Kd.R_alloc | apply Kd.R_drewN | apply Kd.R_drew)); exact Kd.R_mono HO259.out (fun _ hk => ⟨hk.2, ⟨hk.1.1.1.2, ⟨hk.1.1.2, hk.1.2⟩⟩⟩)), (by (with_reducible repeat (first | apply Kd.R_alloc | apply Kd.R_drewN | apply Kd.R_drew)); exact Kd.R_mono HO267.out (fun _ hk => ⟨hk.2, ⟨hk.1.1.1.2, ⟨hk.1.1.2, hk.1.2⟩⟩⟩)), (by (with_reducible repeat (first | apply Kd.R_alloc | apply Kd.R_drewN | apply Kd.R_drew)); exact Kd.R_mono HO_226002.out (fun _ hk => ⟨hk.1.2, ⟨hk.2, ⟨hk.1.1.1, hk.1.1.2⟩⟩⟩)), (by (with_reducible repeat (first | apply Kd.R_alloc | apply Kd.R_drewN | apply Kd.R_drew)); exact Kd.R_mono HO_232002.out (fun _ hk => ⟨hk.1.2, ⟨hk.2, ⟨hk.1.1.1, hk.1.1.2⟩⟩⟩)), (by (with_reducible repeat (first | apply Kd.R_alloc | apply Kd.R_drewN | apply Kd.R_drew)); exact Kd.R_mono HO_242002.out (fun _ hk => ⟨hk.1.2, ⟨hk.2, ⟨hk.1.1.1, hk.1.1.2⟩⟩⟩)), BK208.out, BK209.out, BK225.out, BK231.out, BK241.out, BK269.out, GW269.out, GE269.out, NB208_269.out, NB269_208.out, NB209_269.out, NB269_209.out, NB225_269.out, NB269_225.out, NB231_269.out, NB269_231.out, NB241_269.out, NB269_241.out, (by repeat (first | (with_reducible first | exact HB.out | apply below_alloc | apply pw_below_drewN | apply below_drew1 | refine below_setA ?_ (by assumption)) | exact HB.out))⟩)
              · skip
                refine box_step ?hg (N := 14) ?hd (cs := #[.int .i64 0, .int .i64 0, .slice none 0 0]) (t := 30) ?hr ?_; (case hd => rfl); (case hg => rfl); (case hr => first | (go_simp; done) | (go_simp; rfl))
                intro gb269 hg w133 hbox hb
                have BK269 := As_ (hbox)
                have GW269 := As_ ((by rw [hg]; exact (below_size (by repeat (first | (with_reducible first | exact HB.out | apply below_alloc | apply pw_below_drewN | apply below_drew1 | refine below_setA ?_ (by assumption)) | exact HB.out))) : w.heap.size ≤ gb269))
                have GE269 := As_ ((by rw [hg]; exact (below_size (by repeat (first | (with_reducible first | exact HB.out | apply below_alloc | apply pw_below_drewN | apply below_drew1 | refine below_setA ?_ (by assumption)) | exact HB.out))) : w.heap.size ≤ gb269))
                have NB208_269 := As_ (ne_lt hg BK208.out)
                have NB269_208 := As_ (ne_gt hg BK208.out)
                have NB209_269 := As_ (ne_lt hg BK209.out)
                have NB269_209 := As_ (ne_gt hg BK209.out)
                have NB225_269 := As_ (ne_lt hg BK225.out)
                have NB269_225 := As_ (ne_gt hg BK225.out)
                have NB231_269 := As_ (ne_lt hg BK231.out)
                have NB269_231 := As_ (ne_gt hg BK231.out)
                have NB241_269 := As_ (ne_lt hg BK241.out)
                have NB269_241 := As_ (ne_gt hg BK241.out)
                replace HO_226002 := As_ (Kd.R_below (by (with_reducible repeat (first | apply Kd.R_alloc | apply Kd.R_drewN | apply Kd.R_drew)); exact HO_226002.out) hb)
                replace HO_232002 := As_ (Kd.R_below (by (with_reducible repeat (first | apply Kd.R_alloc | apply Kd.R_drewN | apply Kd.R_drew)); exact HO_232002.out) hb)
                replace HO_242002 := As_ (Kd.R_below (by (with_reducible repeat (first | apply Kd.R_alloc | apply Kd.R_drewN | apply Kd.R_drew)); exact HO_242002.out) hb)
                replace HO259 := As_ (Kd.R_below (by (with_reducible repeat (first | apply Kd.R_alloc | apply Kd.R_drewN | apply Kd.R_drew)); exact HO259.out) hb)
                replace BK208 := As_ (blk_b hb BK208.out)
                replace BK209 := As_ (blk_b hb BK209.out)
                replace BK225 := As_ (blk_b hb BK225.out)
                replace BK231 := As_ (blk_b hb BK231.out)
                replace BK241 := As_ (blk_b hb BK241.out)
                replace HB := As_ (below_step (by repeat (first | (with_reducible first | exact HB.out | apply below_alloc | apply pw_below_drewN | apply below_drew1 | refine below_setA ?_ (by assumption)) | exact HB.out)) hb)
                clear hb hbox hg
                obtain ⟨Ao134, co134, eo134⟩ := Kd.R_slice HO259.out
                (first | subst eo134 | (injection eo134 with f1_ f2_ f3_; have f4_ := f1_.symm; have f5_ := f3_.symm; clear f1_ f2_ f3_; subst f4_; subst f5_))
                refine hK.out _ _ ⟨(blk_cell BK208.out 0).trans rfl, (blk_cell BK208.out 1).trans rfl, (blk_cell BK208.out 2).trans rfl, (blk_cell BK209.out 0).trans rfl, (blk_cell BK209.out 1).trans rfl, (blk_cell BK209.out 2).trans rfl⟩ (fun hHeld => ?_)
                clear hK K
                refine norm_ (a' := ?_) ?_ ?_
                rotate_left
                · show Act.put _ (some 14) _ = _
                  simp only [Act.put, List.setIfInBounds_toArray, List.set_cons_zero, List.set_cons_succ, i64_w, i32_w]
                  rfl
                refine one_ (i := 4) (N := some 84) #[true, true, true, true, true, false, false, false, true, false, false] rfl rfl (one_of HT_.out (by kernel_rfl)) (by decide) (fun K hK => ?_)
                refine goes_ Try.func11 (by kernel_rfl) rfl #[.agg #[.int .i64 t255, .int .i64 t256, .slice Ao134 t257.length co134], .agg #[.int .i64 t260, .int .i64 t261, .int .i64 t262]] (by rfl) rfl rfl (by (try simp only [List.map_toArray, List.map_cons, List.map_nil]); first | done | rfl | (simp only [List.length_drop, List.length_take]; rfl)) ?_
                with_reducible refine (impl_AddClue.calls t255 t256 _ _ t257 t260 t261 t262 t263 t264 t265 t268 _ ?side1 ?side2 A120.out).mono ?_
                (case side1 => repeat (first | exact (Kd.R_reads' HO259.out).2.2 | (with_reducible refine Kd.C_alloc ?_ _) | (with_reducible refine Kd.C_drewN ?_ _) | (with_reducible refine Kd.C_drew ?_)))
                (case side2 => exact (Kd.R_reads' HO259.out).2.1)
                rintro e w135 ⟨v266, rfl, ho0, hb⟩
                refine ⟨_, rfl, ?_⟩
                have HO267 := As_ (Kd.R_lower (Kd.R_new' (Kd.R_new' (Kd.R_new' (Kd.R_new' ho0 (Kd.R_lt (by (with_reducible repeat (first | apply Kd.R_alloc | apply Kd.R_drewN | apply Kd.R_drew)); exact HO_226002.out))) (Kd.R_lt (by (with_reducible repeat (first | apply Kd.R_alloc | apply Kd.R_drewN | apply Kd.R_drew)); exact HO_232002.out))) (Kd.R_lt (by (with_reducible repeat (first | apply Kd.R_alloc | apply Kd.R_drewN | apply Kd.R_drew)); exact HO_242002.out))) (Kd.R_lt (by (with_reducible repeat (first | apply Kd.R_alloc | apply Kd.R_drewN | apply Kd.R_drew)); exact HO259.out))) (below_size (by repeat (first | (with_reducible first | exact HB.out | apply below_alloc | apply pw_below_drewN | apply below_drew1 | refine below_setA ?_ (by assumption)) | exact HB.out))))
                replace HO_226002 := As_ (Kd.R_elder' (by (with_reducible repeat (first | apply Kd.R_alloc | apply Kd.R_drewN | apply Kd.R_drew)); exact HO_226002.out) (Kd.R_base ho0) hb)
                replace HO_232002 := As_ (Kd.R_elder' (by (with_reducible repeat (first | apply Kd.R_alloc | apply Kd.R_drewN | apply Kd.R_drew)); exact HO_232002.out) (Kd.R_base ho0) hb)
                replace HO_242002 := As_ (Kd.R_elder' (by (with_reducible repeat (first | apply Kd.R_alloc | apply Kd.R_drewN | apply Kd.R_drew)); exact HO_242002.out) (Kd.R_base ho0) hb)
                replace HO259 := As_ (Kd.R_elder' (by (with_reducible repeat (first | apply Kd.R_alloc | apply Kd.R_drewN | apply Kd.R_drew)); exact HO259.out) (Kd.R_base ho0) hb)
                replace BK208 := As_ (blk_b hb BK208.out)
                replace BK209 := As_ (blk_b hb BK209.out)
                replace BK225 := As_ (blk_b hb BK225.out)
                replace BK231 := As_ (blk_b hb BK231.out)
                replace BK241 := As_ (blk_b hb BK241.out)
                replace BK269 := As_ (blk_b hb BK269.out)
                replace HB := As_ (below_step (by repeat (first | (with_reducible first | exact HB.out | apply below_alloc | apply pw_below_drewN | apply below_drew1 | refine below_setA ?_ (by assumption)) | exact HB.out)) hb)
                (try clear hb)
                (try clear hb2)
                (try clear hk)
                (try clear hi)
                (try clear ho0)
                refine hK.out _ _ ⟨(blk_cell BK208.out 0).trans rfl, (blk_cell BK208.out 1).trans rfl, (blk_cell BK208.out 2).trans rfl, (blk_cell BK209.out 0).trans rfl, (blk_cell BK209.out 1).trans rfl, (blk_cell BK209.out 2).trans rfl⟩ (fun hHeld => ?_)
                clear hK K
                refine norm_ (a' := ?_) ?_ ?_
                rotate_left
                · show Act.put _ (some 84) _ = _
                  simp only [Act.put, List.setIfInBounds_toArray, List.set_cons_zero, List.set_cons_succ, i64_w, i32_w]
                  rfl
                refine pure_ (i := 5) (N := some 79) (v := ?_) (a' := ?_) #[true, true, true, true, true, true, false, false, true, false, false] rfl rfl (any_of HT_.out (by kernel_rfl)) (fun _ _ _ h => h) (Or.inl ⟨by rfl, ?_⟩) ?_ ?_
                rotate_left
                · intro w'
                  go_simp
                  with_reducible rfl
                rotate_left
                · simp only [Act.put, List.setIfInBounds_toArray, List.set_cons_zero, List.set_cons_succ, i64_w, i32_w]
                  rfl
                refine pure_ (i := 6) (N := some 85) (v := ?_) (a' := ?_) #[true, true, true, true, true, true, true, false, true, false, false] rfl rfl (any_of HT_.out (by kernel_rfl)) (fun _ _ _ h => h) (Or.inl ⟨by rfl, ?_⟩) ?_ ?_
                rotate_left
                · intro w'
                  go_simp
                  with_reducible rfl
                rotate_left
                · simp only [Act.put, List.setIfInBounds_toArray, List.set_cons_zero, List.set_cons_succ, i64_w, i32_w]
                  rfl
                refine pure_ (i := 7) (N := some 86) (v := ?_) (a' := ?_) #[true, true, true, true, true, true, true, true, true, false, false] rfl rfl (any_of HT_.out (by kernel_rfl)) (fun _ _ _ h => h) (Or.inl ⟨by rfl, ?_⟩) ?_ ?_
                rotate_left
                · intro w'
                  go_simp
                  with_reducible rfl
                rotate_left
                · simp only [Act.put, List.setIfInBounds_toArray, List.set_cons_zero, List.set_cons_succ, i64_w, i32_w]
                  rfl
                exact norm_ (by simp only [putAll, Act.put, List.setIfInBounds_toArray, List.set_cons_zero, List.set_cons_succ]) (hCont (.slice Ao134 t257.length co134, v266, gb269) _ ⟨hHeld, (by (with_reducible repeat (first | apply Kd.R_alloc | apply Kd.R_drewN | apply Kd.R_drew)); exact Kd.R_mono HO259.out (fun _ hk => ⟨hk.2, ⟨hk.1.1.1.2, ⟨hk.1.1.2, hk.1.2⟩⟩⟩)), (by (with_reducible repeat (first | apply Kd.R_alloc | apply Kd.R_drewN | apply Kd.R_drew)); exact Kd.R_mono HO267.out (fun _ hk => ⟨hk.2, ⟨hk.1.1.1.2, ⟨hk.1.1.2, hk.1.2⟩⟩⟩)), (by (with_reducible repeat (first | apply Kd.R_alloc | apply Kd.R_drewN | apply Kd.R_drew)); exact Kd.R_mono HO_226002.out (fun _ hk => ⟨hk.1.2, ⟨hk.2, ⟨hk.1.1.1, hk.1.1.2⟩⟩⟩)), (by (with_reducible repeat (first | apply Kd.R_alloc | apply Kd.R_drewN | apply Kd.R_drew)); exact Kd.R_mono HO_232002.out (fun _ hk => ⟨hk.1.2, ⟨hk.2, ⟨hk.1.1.1, hk.1.1.2⟩⟩⟩)), (by (with_reducible repeat (first | apply Kd.R_alloc | apply Kd.R_drewN | apply Kd.R_drew)); exact Kd.R_mono HO_242002.out (fun _ hk => ⟨hk.1.2, ⟨hk.2, ⟨hk.1.1.1, hk.1.1.2⟩⟩⟩)), BK208.out, BK209.out, BK225.out, BK231.out, BK241.out, BK269.out, GW269.out, GE269.out, NB208_269.out, NB269_208.out, NB209_269.out, NB269_209.out, NB225_269.out, NB269_225.out, NB231_269.out, NB269_231.out, NB241_269.out, NB269_241.out, (by repeat (first | (with_reducible first | exact HB.out | apply below_alloc | apply pw_below_drewN | apply below_drew1 | refine below_setA ?_ (by assumption)) | exact HB.out))⟩)
            · skip
              refine box_step ?hg (N := 14) ?hd (cs := #[.int .i64 0, .int .i64 0, .slice none 0 0]) (t := 30) ?hr ?_; (case hd => rfl); (case hg => rfl); (case hr => first | (go_simp; done) | (go_simp; rfl))
              intro gb269 hg w132 hbox hb
              have BK269 := As_ (hbox)
              have GW269 := As_ ((by rw [hg]; exact (below_size (by repeat (first | (with_reducible first | exact HB.out | apply below_alloc | apply pw_below_drewN | apply below_drew1 | refine below_setA ?_ (by assumption)) | exact HB.out))) : w.heap.size ≤ gb269))
              have GE269 := As_ ((by rw [hg]; exact (below_size (by repeat (first | (with_reducible first | exact HB.out | apply below_alloc | apply pw_below_drewN | apply below_drew1 | refine below_setA ?_ (by assumption)) | exact HB.out))) : w.heap.size ≤ gb269))
              have NB208_269 := As_ (ne_lt hg BK208.out)
              have NB269_208 := As_ (ne_gt hg BK208.out)
              have NB209_269 := As_ (ne_lt hg BK209.out)
              have NB269_209 := As_ (ne_gt hg BK209.out)
              have NB225_269 := As_ (ne_lt hg BK225.out)
              have NB269_225 := As_ (ne_gt hg BK225.out)
              have NB231_269 := As_ (ne_lt hg BK231.out)
              have NB269_231 := As_ (ne_gt hg BK231.out)
              have NB241_269 := As_ (ne_lt hg BK241.out)
              have NB269_241 := As_ (ne_gt hg BK241.out)
              replace HO_226002 := As_ (Kd.R_below (by (with_reducible repeat (first | apply Kd.R_alloc | apply Kd.R_drewN | apply Kd.R_drew)); exact HO_226002.out) hb)
              replace HO_232002 := As_ (Kd.R_below (by (with_reducible repeat (first | apply Kd.R_alloc | apply Kd.R_drewN | apply Kd.R_drew)); exact HO_232002.out) hb)
              replace HO_242002 := As_ (Kd.R_below (by (with_reducible repeat (first | apply Kd.R_alloc | apply Kd.R_drewN | apply Kd.R_drew)); exact HO_242002.out) hb)
              replace HO259 := As_ (Kd.R_below (by (with_reducible repeat (first | apply Kd.R_alloc | apply Kd.R_drewN | apply Kd.R_drew)); exact HO259.out) hb)
              replace BK208 := As_ (blk_b hb BK208.out)
              replace BK209 := As_ (blk_b hb BK209.out)
              replace BK225 := As_ (blk_b hb BK225.out)
              replace BK231 := As_ (blk_b hb BK231.out)
              replace BK241 := As_ (blk_b hb BK241.out)
              replace HB := As_ (below_step (by repeat (first | (with_reducible first | exact HB.out | apply below_alloc | apply pw_below_drewN | apply below_drew1 | refine below_setA ?_ (by assumption)) | exact HB.out)) hb)
              clear hb hbox hg
              refine hK.out _ _ ⟨(blk_cell BK208.out 0).trans rfl, (blk_cell BK208.out 1).trans rfl, (blk_cell BK208.out 2).trans rfl, (blk_cell BK209.out 0).trans rfl, (blk_cell BK209.out 1).trans rfl, (blk_cell BK209.out 2).trans rfl⟩ (fun hHeld => ?_)
              clear hK K
              refine norm_ (a' := ?_) ?_ ?_
              rotate_left
              · show Act.put _ (some 14) _ = _
                simp only [Act.put, List.setIfInBounds_toArray, List.set_cons_zero, List.set_cons_succ, i64_w, i32_w]
                rfl
              refine one_ (i := 3) (N := some 83) #[true, true, true, true, false, false, false, false, true, false, false] rfl rfl (one_of HT_.out (by kernel_rfl)) (by decide) (fun K hK => ?_)
              refine goes_ Try.func10 (by kernel_rfl) rfl #[.agg #[.int .i64 a1_0, .int .i64 a1_1, .int .i64 a1_2]] (by rfl) rfl rfl (by (try simp only [List.map_toArray, List.map_cons, List.map_nil]); first | done | rfl | (simp only [List.length_drop, List.length_take]; rfl)) ?_
              with_reducible refine (laws_toClue.calls a1_0 a1_1 a1_2 t260 t261 t262 _ A119.out).mono ?_
              rintro e w133 ⟨rfl, hb⟩
              refine ⟨_, rfl, ?_⟩
              replace HO_226002 := As_ (Kd.R_below (by (with_reducible repeat (first | apply Kd.R_alloc | apply Kd.R_drewN | apply Kd.R_drew)); exact HO_226002.out) hb)
              replace HO_232002 := As_ (Kd.R_below (by (with_reducible repeat (first | apply Kd.R_alloc | apply Kd.R_drewN | apply Kd.R_drew)); exact HO_232002.out) hb)
              replace HO_242002 := As_ (Kd.R_below (by (with_reducible repeat (first | apply Kd.R_alloc | apply Kd.R_drewN | apply Kd.R_drew)); exact HO_242002.out) hb)
              replace HO259 := As_ (Kd.R_below (by (with_reducible repeat (first | apply Kd.R_alloc | apply Kd.R_drewN | apply Kd.R_drew)); exact HO259.out) hb)
              replace BK208 := As_ (blk_b hb BK208.out)
              replace BK209 := As_ (blk_b hb BK209.out)
              replace BK225 := As_ (blk_b hb BK225.out)
              replace BK231 := As_ (blk_b hb BK231.out)
              replace BK241 := As_ (blk_b hb BK241.out)
              replace BK269 := As_ (blk_b hb BK269.out)
              replace HB := As_ (below_step (by repeat (first | (with_reducible first | exact HB.out | apply below_alloc | apply pw_below_drewN | apply below_drew1 | refine below_setA ?_ (by assumption)) | exact HB.out)) hb)
              (try clear hb)
              (try clear hb2)
              (try clear hk)
              (try clear hi)
              obtain ⟨Ao134, co134, eo134⟩ := Kd.R_slice HO259.out
              (first | subst eo134 | (injection eo134 with f1_ f2_ f3_; have f4_ := f1_.symm; have f5_ := f3_.symm; clear f1_ f2_ f3_; subst f4_; subst f5_))
              refine hK.out _ _ ⟨(blk_cell BK208.out 0).trans rfl, (blk_cell BK208.out 1).trans rfl, (blk_cell BK208.out 2).trans rfl, (blk_cell BK209.out 0).trans rfl, (blk_cell BK209.out 1).trans rfl, (blk_cell BK209.out 2).trans rfl⟩ (fun hHeld => ?_)
              clear hK K
              refine norm_ (a' := ?_) ?_ ?_
              rotate_left
              · show Act.put _ (some 83) _ = _
                simp only [Act.put, List.setIfInBounds_toArray, List.set_cons_zero, List.set_cons_succ, i64_w, i32_w]
                rfl
              refine one_ (i := 4) (N := some 84) #[true, true, true, true, true, false, false, false, true, false, false] rfl rfl (one_of HT_.out (by kernel_rfl)) (by decide) (fun K hK => ?_)
              refine goes_ Try.func11 (by kernel_rfl) rfl #[.agg #[.int .i64 t255, .int .i64 t256, .slice Ao134 t257.length co134], .agg #[.int .i64 t260, .int .i64 t261, .int .i64 t262]] (by rfl) rfl rfl (by (try simp only [List.map_toArray, List.map_cons, List.map_nil]); first | done | rfl | (simp only [List.length_drop, List.length_take]; rfl)) ?_
              with_reducible refine (impl_AddClue.calls t255 t256 _ _ t257 t260 t261 t262 t263 t264 t265 t268 _ ?side1 ?side2 A120.out).mono ?_
              (case side1 => repeat (first | exact (Kd.R_reads' HO259.out).2.2 | (with_reducible refine Kd.C_alloc ?_ _) | (with_reducible refine Kd.C_drewN ?_ _) | (with_reducible refine Kd.C_drew ?_)))
              (case side2 => exact (Kd.R_reads' HO259.out).2.1)
              rintro e w135 ⟨v266, rfl, ho0, hb⟩
              refine ⟨_, rfl, ?_⟩
              have HO267 := As_ (Kd.R_lower (Kd.R_new' (Kd.R_new' (Kd.R_new' (Kd.R_new' ho0 (Kd.R_lt (by (with_reducible repeat (first | apply Kd.R_alloc | apply Kd.R_drewN | apply Kd.R_drew)); exact HO_226002.out))) (Kd.R_lt (by (with_reducible repeat (first | apply Kd.R_alloc | apply Kd.R_drewN | apply Kd.R_drew)); exact HO_232002.out))) (Kd.R_lt (by (with_reducible repeat (first | apply Kd.R_alloc | apply Kd.R_drewN | apply Kd.R_drew)); exact HO_242002.out))) (Kd.R_lt (by (with_reducible repeat (first | apply Kd.R_alloc | apply Kd.R_drewN | apply Kd.R_drew)); exact HO259.out))) (below_size (by repeat (first | (with_reducible first | exact HB.out | apply below_alloc | apply pw_below_drewN | apply below_drew1 | refine below_setA ?_ (by assumption)) | exact HB.out))))
              replace HO_226002 := As_ (Kd.R_elder' (by (with_reducible repeat (first | apply Kd.R_alloc | apply Kd.R_drewN | apply Kd.R_drew)); exact HO_226002.out) (Kd.R_base ho0) hb)
              replace HO_232002 := As_ (Kd.R_elder' (by (with_reducible repeat (first | apply Kd.R_alloc | apply Kd.R_drewN | apply Kd.R_drew)); exact HO_232002.out) (Kd.R_base ho0) hb)
              replace HO_242002 := As_ (Kd.R_elder' (by (with_reducible repeat (first | apply Kd.R_alloc | apply Kd.R_drewN | apply Kd.R_drew)); exact HO_242002.out) (Kd.R_base ho0) hb)
              replace HO259 := As_ (Kd.R_elder' (by (with_reducible repeat (first | apply Kd.R_alloc | apply Kd.R_drewN | apply Kd.R_drew)); exact HO259.out) (Kd.R_base ho0) hb)
              replace BK208 := As_ (blk_b hb BK208.out)
              replace BK209 := As_ (blk_b hb BK209.out)
              replace BK225 := As_ (blk_b hb BK225.out)
              replace BK231 := As_ (blk_b hb BK231.out)
              replace BK241 := As_ (blk_b hb BK241.out)
              replace BK269 := As_ (blk_b hb BK269.out)
              replace HB := As_ (below_step (by repeat (first | (with_reducible first | exact HB.out | apply below_alloc | apply pw_below_drewN | apply below_drew1 | refine below_setA ?_ (by assumption)) | exact HB.out)) hb)
              (try clear hb)
              (try clear hb2)
              (try clear hk)
              (try clear hi)
              (try clear ho0)
              refine hK.out _ _ ⟨(blk_cell BK208.out 0).trans rfl, (blk_cell BK208.out 1).trans rfl, (blk_cell BK208.out 2).trans rfl, (blk_cell BK209.out 0).trans rfl, (blk_cell BK209.out 1).trans rfl, (blk_cell BK209.out 2).trans rfl⟩ (fun hHeld => ?_)
              clear hK K
              refine norm_ (a' := ?_) ?_ ?_
              rotate_left
              · show Act.put _ (some 84) _ = _
                simp only [Act.put, List.setIfInBounds_toArray, List.set_cons_zero, List.set_cons_succ, i64_w, i32_w]
                rfl
              refine pure_ (i := 5) (N := some 79) (v := ?_) (a' := ?_) #[true, true, true, true, true, true, false, false, true, false, false] rfl rfl (any_of HT_.out (by kernel_rfl)) (fun _ _ _ h => h) (Or.inl ⟨by rfl, ?_⟩) ?_ ?_
              rotate_left
              · intro w'
                go_simp
                with_reducible rfl
              rotate_left
              · simp only [Act.put, List.setIfInBounds_toArray, List.set_cons_zero, List.set_cons_succ, i64_w, i32_w]
                rfl
              refine pure_ (i := 6) (N := some 85) (v := ?_) (a' := ?_) #[true, true, true, true, true, true, true, false, true, false, false] rfl rfl (any_of HT_.out (by kernel_rfl)) (fun _ _ _ h => h) (Or.inl ⟨by rfl, ?_⟩) ?_ ?_
              rotate_left
              · intro w'
                go_simp
                with_reducible rfl
              rotate_left
              · simp only [Act.put, List.setIfInBounds_toArray, List.set_cons_zero, List.set_cons_succ, i64_w, i32_w]
                rfl
              refine pure_ (i := 7) (N := some 86) (v := ?_) (a' := ?_) #[true, true, true, true, true, true, true, true, true, false, false] rfl rfl (any_of HT_.out (by kernel_rfl)) (fun _ _ _ h => h) (Or.inl ⟨by rfl, ?_⟩) ?_ ?_
              rotate_left
              · intro w'
                go_simp
                with_reducible rfl
              rotate_left
              · simp only [Act.put, List.setIfInBounds_toArray, List.set_cons_zero, List.set_cons_succ, i64_w, i32_w]
                rfl
              exact norm_ (by simp only [putAll, Act.put, List.setIfInBounds_toArray, List.set_cons_zero, List.set_cons_succ]) (hCont (.slice Ao134 t257.length co134, v266, gb269) _ ⟨hHeld, (by (with_reducible repeat (first | apply Kd.R_alloc | apply Kd.R_drewN | apply Kd.R_drew)); exact Kd.R_mono HO259.out (fun _ hk => ⟨hk.2, ⟨hk.1.1.1.2, ⟨hk.1.1.2, hk.1.2⟩⟩⟩)), (by (with_reducible repeat (first | apply Kd.R_alloc | apply Kd.R_drewN | apply Kd.R_drew)); exact Kd.R_mono HO267.out (fun _ hk => ⟨hk.2, ⟨hk.1.1.1.2, ⟨hk.1.1.2, hk.1.2⟩⟩⟩)), (by (with_reducible repeat (first | apply Kd.R_alloc | apply Kd.R_drewN | apply Kd.R_drew)); exact Kd.R_mono HO_226002.out (fun _ hk => ⟨hk.1.2, ⟨hk.2, ⟨hk.1.1.1, hk.1.1.2⟩⟩⟩)), (by (with_reducible repeat (first | apply Kd.R_alloc | apply Kd.R_drewN | apply Kd.R_drew)); exact Kd.R_mono HO_232002.out (fun _ hk => ⟨hk.1.2, ⟨hk.2, ⟨hk.1.1.1, hk.1.1.2⟩⟩⟩)), (by (with_reducible repeat (first | apply Kd.R_alloc | apply Kd.R_drewN | apply Kd.R_drew)); exact Kd.R_mono HO_242002.out (fun _ hk => ⟨hk.1.2, ⟨hk.2, ⟨hk.1.1.1, hk.1.1.2⟩⟩⟩)), BK208.out, BK209.out, BK225.out, BK231.out, BK241.out, BK269.out, GW269.out, GE269.out, NB208_269.out, NB269_208.out, NB209_269.out, NB269_209.out, NB225_269.out, NB269_225.out, NB231_269.out, NB269_231.out, NB241_269.out, NB269_241.out, (by repeat (first | (with_reducible first | exact HB.out | apply below_alloc | apply pw_below_drewN | apply below_drew1 | refine below_setA ?_ (by assumption)) | exact HB.out))⟩)
          · skip
            refine box_step ?hg (N := 14) ?hd (cs := #[.int .i64 0, .int .i64 0, .slice none 0 0]) (t := 30) ?hr ?_; (case hd => rfl); (case hg => rfl); (case hr => first | (go_simp; done) | (go_simp; rfl))
            intro gb269 hg w131 hbox hb
            have BK269 := As_ (hbox)
            have GW269 := As_ ((by rw [hg]; exact (below_size (by repeat (first | (with_reducible first | exact HB.out | apply below_alloc | apply pw_below_drewN | apply below_drew1 | refine below_setA ?_ (by assumption)) | exact HB.out))) : w.heap.size ≤ gb269))
            have GE269 := As_ ((by rw [hg]; exact (below_size (by repeat (first | (with_reducible first | exact HB.out | apply below_alloc | apply pw_below_drewN | apply below_drew1 | refine below_setA ?_ (by assumption)) | exact HB.out))) : w.heap.size ≤ gb269))
            have NB208_269 := As_ (ne_lt hg BK208.out)
            have NB269_208 := As_ (ne_gt hg BK208.out)
            have NB209_269 := As_ (ne_lt hg BK209.out)
            have NB269_209 := As_ (ne_gt hg BK209.out)
            have NB225_269 := As_ (ne_lt hg BK225.out)
            have NB269_225 := As_ (ne_gt hg BK225.out)
            have NB231_269 := As_ (ne_lt hg BK231.out)
            have NB269_231 := As_ (ne_gt hg BK231.out)
            have NB241_269 := As_ (ne_lt hg BK241.out)
            have NB269_241 := As_ (ne_gt hg BK241.out)
            replace HO_226002 := As_ (Kd.R_below (by (with_reducible repeat (first | apply Kd.R_alloc | apply Kd.R_drewN | apply Kd.R_drew)); exact HO_226002.out) hb)
            replace HO_232002 := As_ (Kd.R_below (by (with_reducible repeat (first | apply Kd.R_alloc | apply Kd.R_drewN | apply Kd.R_drew)); exact HO_232002.out) hb)
            replace HO_242002 := As_ (Kd.R_below (by (with_reducible repeat (first | apply Kd.R_alloc | apply Kd.R_drewN | apply Kd.R_drew)); exact HO_242002.out) hb)
            replace BK208 := As_ (blk_b hb BK208.out)
            replace BK209 := As_ (blk_b hb BK209.out)
            replace BK225 := As_ (blk_b hb BK225.out)
            replace BK231 := As_ (blk_b hb BK231.out)
            replace BK241 := As_ (blk_b hb BK241.out)
            replace HB := As_ (below_step (by repeat (first | (with_reducible first | exact HB.out | apply below_alloc | apply pw_below_drewN | apply below_drew1 | refine below_setA ?_ (by assumption)) | exact HB.out)) hb)
            clear hb hbox hg
            refine hK.out _ _ ⟨(blk_cell BK208.out 0).trans rfl, (blk_cell BK208.out 1).trans rfl, (blk_cell BK208.out 2).trans rfl, (blk_cell BK209.out 0).trans rfl, (blk_cell BK209.out 1).trans rfl, (blk_cell BK209.out 2).trans rfl⟩ (fun hHeld => ?_)
            clear hK K
            refine norm_ (a' := ?_) ?_ ?_
            rotate_left
            · show Act.put _ (some 14) _ = _
              simp only [Act.put, List.setIfInBounds_toArray, List.set_cons_zero, List.set_cons_succ, i64_w, i32_w]
              rfl
            refine one_ (i := 1) (N := some 81) #[true, true, true, false, false, false, false, false, true, false, false] rfl rfl (one_of HT_.out (by kernel_rfl)) (by decide) (fun K hK => ?_)
            refine goes_ Try.func9 (by kernel_rfl) rfl #[.agg #[.int .i64 a0_0, .int .i64 a0_1, .slice A0_2 l0_2.length c0_2]] (by rfl) rfl rfl (by (try simp only [List.map_toArray, List.map_cons, List.map_nil]); first | done | rfl | (simp only [List.length_drop, List.length_take]; rfl)) ?_
            with_reducible refine (laws_toPuzzle.calls kj78 a0_0 a0_1 _ _ l0_2 t255 t256 t257 _ ?side1 ?side2 A118.out).mono ?_
            (case side1 => repeat (first | exact (Kd.C_below HR0_2.out HB.out) | (with_reducible refine Kd.C_alloc ?_ _) | (with_reducible refine Kd.C_drewN ?_ _) | (with_reducible refine Kd.C_drew ?_)))
            (case side2 => exact HC0_2.out)
            rintro e w132 ⟨v258, rfl, ho0, hb⟩
            refine ⟨_, rfl, ?_⟩
            have HO259 := As_ (Kd.R_lower (Kd.R_new' (Kd.R_new' (Kd.R_new' ho0 (Kd.R_lt (by (with_reducible repeat (first | apply Kd.R_alloc | apply Kd.R_drewN | apply Kd.R_drew)); exact HO_226002.out))) (Kd.R_lt (by (with_reducible repeat (first | apply Kd.R_alloc | apply Kd.R_drewN | apply Kd.R_drew)); exact HO_232002.out))) (Kd.R_lt (by (with_reducible repeat (first | apply Kd.R_alloc | apply Kd.R_drewN | apply Kd.R_drew)); exact HO_242002.out))) (below_size (by repeat (first | (with_reducible first | exact HB.out | apply below_alloc | apply pw_below_drewN | apply below_drew1 | refine below_setA ?_ (by assumption)) | exact HB.out))))
            replace HO_226002 := As_ (Kd.R_elder' (by (with_reducible repeat (first | apply Kd.R_alloc | apply Kd.R_drewN | apply Kd.R_drew)); exact HO_226002.out) (Kd.R_base ho0) hb)
            replace HO_232002 := As_ (Kd.R_elder' (by (with_reducible repeat (first | apply Kd.R_alloc | apply Kd.R_drewN | apply Kd.R_drew)); exact HO_232002.out) (Kd.R_base ho0) hb)
            replace HO_242002 := As_ (Kd.R_elder' (by (with_reducible repeat (first | apply Kd.R_alloc | apply Kd.R_drewN | apply Kd.R_drew)); exact HO_242002.out) (Kd.R_base ho0) hb)
            replace BK208 := As_ (blk_b hb BK208.out)
            replace BK209 := As_ (blk_b hb BK209.out)
            replace BK225 := As_ (blk_b hb BK225.out)
            replace BK231 := As_ (blk_b hb BK231.out)
            replace BK241 := As_ (blk_b hb BK241.out)
            replace BK269 := As_ (blk_b hb BK269.out)
            replace HB := As_ (below_step (by repeat (first | (with_reducible first | exact HB.out | apply below_alloc | apply pw_below_drewN | apply below_drew1 | refine below_setA ?_ (by assumption)) | exact HB.out)) hb)
            (try clear hb)
            (try clear hb2)
            (try clear hk)
            (try clear hi)
            (try clear ho0)
            refine hK.out _ _ ⟨(blk_cell BK208.out 0).trans rfl, (blk_cell BK208.out 1).trans rfl, (blk_cell BK208.out 2).trans rfl, (blk_cell BK209.out 0).trans rfl, (blk_cell BK209.out 1).trans rfl, (blk_cell BK209.out 2).trans rfl⟩ (fun hHeld => ?_)
            clear hK K
            refine norm_ (a' := ?_) ?_ ?_
            rotate_left
            · show Act.put _ (some 81) _ = _
              simp only [Act.put, List.setIfInBounds_toArray, List.set_cons_zero, List.set_cons_succ, i64_w, i32_w]
              rfl
            refine one_ (i := 3) (N := some 83) #[true, true, true, true, false, false, false, false, true, false, false] rfl rfl (one_of HT_.out (by kernel_rfl)) (by decide) (fun K hK => ?_)
            refine goes_ Try.func10 (by kernel_rfl) rfl #[.agg #[.int .i64 a1_0, .int .i64 a1_1, .int .i64 a1_2]] (by rfl) rfl rfl (by (try simp only [List.map_toArray, List.map_cons, List.map_nil]); first | done | rfl | (simp only [List.length_drop, List.length_take]; rfl)) ?_
            with_reducible refine (laws_toClue.calls a1_0 a1_1 a1_2 t260 t261 t262 _ A119.out).mono ?_
            rintro e w133 ⟨rfl, hb⟩
            refine ⟨_, rfl, ?_⟩
            replace HO_226002 := As_ (Kd.R_below (by (with_reducible repeat (first | apply Kd.R_alloc | apply Kd.R_drewN | apply Kd.R_drew)); exact HO_226002.out) hb)
            replace HO_232002 := As_ (Kd.R_below (by (with_reducible repeat (first | apply Kd.R_alloc | apply Kd.R_drewN | apply Kd.R_drew)); exact HO_232002.out) hb)
            replace HO_242002 := As_ (Kd.R_below (by (with_reducible repeat (first | apply Kd.R_alloc | apply Kd.R_drewN | apply Kd.R_drew)); exact HO_242002.out) hb)
            replace HO259 := As_ (Kd.R_below (by (with_reducible repeat (first | apply Kd.R_alloc | apply Kd.R_drewN | apply Kd.R_drew)); exact HO259.out) hb)
            replace BK208 := As_ (blk_b hb BK208.out)
            replace BK209 := As_ (blk_b hb BK209.out)
            replace BK225 := As_ (blk_b hb BK225.out)
            replace BK231 := As_ (blk_b hb BK231.out)
            replace BK241 := As_ (blk_b hb BK241.out)
            replace BK269 := As_ (blk_b hb BK269.out)
            replace HB := As_ (below_step (by repeat (first | (with_reducible first | exact HB.out | apply below_alloc | apply pw_below_drewN | apply below_drew1 | refine below_setA ?_ (by assumption)) | exact HB.out)) hb)
            (try clear hb)
            (try clear hb2)
            (try clear hk)
            (try clear hi)
            obtain ⟨Ao134, co134, eo134⟩ := Kd.R_slice HO259.out
            (first | subst eo134 | (injection eo134 with f1_ f2_ f3_; have f4_ := f1_.symm; have f5_ := f3_.symm; clear f1_ f2_ f3_; subst f4_; subst f5_))
            refine hK.out _ _ ⟨(blk_cell BK208.out 0).trans rfl, (blk_cell BK208.out 1).trans rfl, (blk_cell BK208.out 2).trans rfl, (blk_cell BK209.out 0).trans rfl, (blk_cell BK209.out 1).trans rfl, (blk_cell BK209.out 2).trans rfl⟩ (fun hHeld => ?_)
            clear hK K
            refine norm_ (a' := ?_) ?_ ?_
            rotate_left
            · show Act.put _ (some 83) _ = _
              simp only [Act.put, List.setIfInBounds_toArray, List.set_cons_zero, List.set_cons_succ, i64_w, i32_w]
              rfl
            refine one_ (i := 4) (N := some 84) #[true, true, true, true, true, false, false, false, true, false, false] rfl rfl (one_of HT_.out (by kernel_rfl)) (by decide) (fun K hK => ?_)
            refine goes_ Try.func11 (by kernel_rfl) rfl #[.agg #[.int .i64 t255, .int .i64 t256, .slice Ao134 t257.length co134], .agg #[.int .i64 t260, .int .i64 t261, .int .i64 t262]] (by rfl) rfl rfl (by (try simp only [List.map_toArray, List.map_cons, List.map_nil]); first | done | rfl | (simp only [List.length_drop, List.length_take]; rfl)) ?_
            with_reducible refine (impl_AddClue.calls t255 t256 _ _ t257 t260 t261 t262 t263 t264 t265 t268 _ ?side1 ?side2 A120.out).mono ?_
            (case side1 => repeat (first | exact (Kd.R_reads' HO259.out).2.2 | (with_reducible refine Kd.C_alloc ?_ _) | (with_reducible refine Kd.C_drewN ?_ _) | (with_reducible refine Kd.C_drew ?_)))
            (case side2 => exact (Kd.R_reads' HO259.out).2.1)
            rintro e w135 ⟨v266, rfl, ho0, hb⟩
            refine ⟨_, rfl, ?_⟩
            have HO267 := As_ (Kd.R_lower (Kd.R_new' (Kd.R_new' (Kd.R_new' (Kd.R_new' ho0 (Kd.R_lt (by (with_reducible repeat (first | apply Kd.R_alloc | apply Kd.R_drewN | apply Kd.R_drew)); exact HO_226002.out))) (Kd.R_lt (by (with_reducible repeat (first | apply Kd.R_alloc | apply Kd.R_drewN | apply Kd.R_drew)); exact HO_232002.out))) (Kd.R_lt (by (with_reducible repeat (first | apply Kd.R_alloc | apply Kd.R_drewN | apply Kd.R_drew)); exact HO_242002.out))) (Kd.R_lt (by (with_reducible repeat (first | apply Kd.R_alloc | apply Kd.R_drewN | apply Kd.R_drew)); exact HO259.out))) (below_size (by repeat (first | (with_reducible first | exact HB.out | apply below_alloc | apply pw_below_drewN | apply below_drew1 | refine below_setA ?_ (by assumption)) | exact HB.out))))
            replace HO_226002 := As_ (Kd.R_elder' (by (with_reducible repeat (first | apply Kd.R_alloc | apply Kd.R_drewN | apply Kd.R_drew)); exact HO_226002.out) (Kd.R_base ho0) hb)
            replace HO_232002 := As_ (Kd.R_elder' (by (with_reducible repeat (first | apply Kd.R_alloc | apply Kd.R_drewN | apply Kd.R_drew)); exact HO_232002.out) (Kd.R_base ho0) hb)
            replace HO_242002 := As_ (Kd.R_elder' (by (with_reducible repeat (first | apply Kd.R_alloc | apply Kd.R_drewN | apply Kd.R_drew)); exact HO_242002.out) (Kd.R_base ho0) hb)
            replace HO259 := As_ (Kd.R_elder' (by (with_reducible repeat (first | apply Kd.R_alloc | apply Kd.R_drewN | apply Kd.R_drew)); exact HO259.out) (Kd.R_base ho0) hb)
            replace BK208 := As_ (blk_b hb BK208.out)
            replace BK209 := As_ (blk_b hb BK209.out)
            replace BK225 := As_ (blk_b hb BK225.out)
            replace BK231 := As_ (blk_b hb BK231.out)
            replace BK241 := As_ (blk_b hb BK241.out)
            replace BK269 := As_ (blk_b hb BK269.out)
            replace HB := As_ (below_step (by repeat (first | (with_reducible first | exact HB.out | apply below_alloc | apply pw_below_drewN | apply below_drew1 | refine below_setA ?_ (by assumption)) | exact HB.out)) hb)
            (try clear hb)
            (try clear hb2)
            (try clear hk)
            (try clear hi)
            (try clear ho0)
            refine hK.out _ _ ⟨(blk_cell BK208.out 0).trans rfl, (blk_cell BK208.out 1).trans rfl, (blk_cell BK208.out 2).trans rfl, (blk_cell BK209.out 0).trans rfl, (blk_cell BK209.out 1).trans rfl, (blk_cell BK209.out 2).trans rfl⟩ (fun hHeld => ?_)
            clear hK K
            refine norm_ (a' := ?_) ?_ ?_
            rotate_left
            · show Act.put _ (some 84) _ = _
              simp only [Act.put, List.setIfInBounds_toArray, List.set_cons_zero, List.set_cons_succ, i64_w, i32_w]
              rfl
            refine pure_ (i := 5) (N := some 79) (v := ?_) (a' := ?_) #[true, true, true, true, true, true, false, false, true, false, false] rfl rfl (any_of HT_.out (by kernel_rfl)) (fun _ _ _ h => h) (Or.inl ⟨by rfl, ?_⟩) ?_ ?_
            rotate_left
            · intro w'
              go_simp
              with_reducible rfl
            rotate_left
            · simp only [Act.put, List.setIfInBounds_toArray, List.set_cons_zero, List.set_cons_succ, i64_w, i32_w]
              rfl
            refine pure_ (i := 6) (N := some 85) (v := ?_) (a' := ?_) #[true, true, true, true, true, true, true, false, true, false, false] rfl rfl (any_of HT_.out (by kernel_rfl)) (fun _ _ _ h => h) (Or.inl ⟨by rfl, ?_⟩) ?_ ?_
            rotate_left
            · intro w'
              go_simp
              with_reducible rfl
            rotate_left
            · simp only [Act.put, List.setIfInBounds_toArray, List.set_cons_zero, List.set_cons_succ, i64_w, i32_w]
              rfl
            refine pure_ (i := 7) (N := some 86) (v := ?_) (a' := ?_) #[true, true, true, true, true, true, true, true, true, false, false] rfl rfl (any_of HT_.out (by kernel_rfl)) (fun _ _ _ h => h) (Or.inl ⟨by rfl, ?_⟩) ?_ ?_
            rotate_left
            · intro w'
              go_simp
              with_reducible rfl
            rotate_left
            · simp only [Act.put, List.setIfInBounds_toArray, List.set_cons_zero, List.set_cons_succ, i64_w, i32_w]
              rfl
            exact norm_ (by simp only [putAll, Act.put, List.setIfInBounds_toArray, List.set_cons_zero, List.set_cons_succ]) (hCont (.slice Ao134 t257.length co134, v266, gb269) _ ⟨hHeld, (by (with_reducible repeat (first | apply Kd.R_alloc | apply Kd.R_drewN | apply Kd.R_drew)); exact Kd.R_mono HO259.out (fun _ hk => ⟨hk.2, ⟨hk.1.1.1.2, ⟨hk.1.1.2, hk.1.2⟩⟩⟩)), (by (with_reducible repeat (first | apply Kd.R_alloc | apply Kd.R_drewN | apply Kd.R_drew)); exact Kd.R_mono HO267.out (fun _ hk => ⟨hk.2, ⟨hk.1.1.1.2, ⟨hk.1.1.2, hk.1.2⟩⟩⟩)), (by (with_reducible repeat (first | apply Kd.R_alloc | apply Kd.R_drewN | apply Kd.R_drew)); exact Kd.R_mono HO_226002.out (fun _ hk => ⟨hk.1.2, ⟨hk.2, ⟨hk.1.1.1, hk.1.1.2⟩⟩⟩)), (by (with_reducible repeat (first | apply Kd.R_alloc | apply Kd.R_drewN | apply Kd.R_drew)); exact Kd.R_mono HO_232002.out (fun _ hk => ⟨hk.1.2, ⟨hk.2, ⟨hk.1.1.1, hk.1.1.2⟩⟩⟩)), (by (with_reducible repeat (first | apply Kd.R_alloc | apply Kd.R_drewN | apply Kd.R_drew)); exact Kd.R_mono HO_242002.out (fun _ hk => ⟨hk.1.2, ⟨hk.2, ⟨hk.1.1.1, hk.1.1.2⟩⟩⟩)), BK208.out, BK209.out, BK225.out, BK231.out, BK241.out, BK269.out, GW269.out, GE269.out, NB208_269.out, NB269_208.out, NB209_269.out, NB269_209.out, NB225_269.out, NB269_225.out, NB231_269.out, NB269_231.out, NB241_269.out, NB269_241.out, (by repeat (first | (with_reducible first | exact HB.out | apply below_alloc | apply pw_below_drewN | apply below_drew1 | refine below_setA ?_ (by assumption)) | exact HB.out))⟩)
        rintro ⟨v258, v266, gb269⟩ w136 ⟨hS_, h0_, h1_, h2_, h3_, h4_, h5_, h6_, h7_, h8_, h9_, h10_, h11_, h12_, h13_, h14_, h15_, h16_, h17_, h18_, h19_, h20_, h21_, h22_, h23_⟩
        have n0_ : Aside0 (Kd.R k34 34 w136 w.heap.size (fun k_ => some k_ ≠ (v266 : Value).ownBlock ∧ some k_ ≠ (.slice Ao31 t221.length co31 : Value).ownBlock ∧ some k_ ≠ (.slice Ao41 t250.length co41 : Value).ownBlock ∧ some k_ ≠ (.slice Ao50 t237.length co50 : Value).ownBlock) v258 t257) := ⟨h0_⟩
        have n1_ : Aside0 (Kd.R k34 34 w136 w.heap.size (fun k_ => some k_ ≠ (v258 : Value).ownBlock ∧ some k_ ≠ (.slice Ao31 t221.length co31 : Value).ownBlock ∧ some k_ ≠ (.slice Ao41 t250.length co41 : Value).ownBlock ∧ some k_ ≠ (.slice Ao50 t237.length co50 : Value).ownBlock) v266 t265) := ⟨h1_⟩
        have n2_ : Aside0 (Kd.R k34 34 w136 w.heap.size (fun k_ => some k_ ≠ (v258 : Value).ownBlock ∧ some k_ ≠ (v266 : Value).ownBlock ∧ some k_ ≠ (.slice Ao41 t250.length co41 : Value).ownBlock ∧ some k_ ≠ (.slice Ao50 t237.length co50 : Value).ownBlock) (.slice Ao31 t221.length co31) t221) := ⟨h2_⟩
        have n3_ : Aside0 (Kd.R k34 34 w136 w.heap.size (fun k_ => some k_ ≠ (v258 : Value).ownBlock ∧ some k_ ≠ (v266 : Value).ownBlock ∧ some k_ ≠ (.slice Ao31 t221.length co31 : Value).ownBlock ∧ some k_ ≠ (.slice Ao50 t237.length co50 : Value).ownBlock) (.slice Ao41 t250.length co41) t250) := ⟨h3_⟩
        have n4_ : Aside0 (Kd.R k34 34 w136 w.heap.size (fun k_ => some k_ ≠ (v258 : Value).ownBlock ∧ some k_ ≠ (v266 : Value).ownBlock ∧ some k_ ≠ (.slice Ao31 t221.length co31 : Value).ownBlock ∧ some k_ ≠ (.slice Ao41 t250.length co41 : Value).ownBlock) (.slice Ao50 t237.length co50) t253) := ⟨h4_⟩
        have n5_ : Aside0 (w136.heap[gb208]? = some (.cells #[.int .i64 a0_0, .int .i64 a0_1, .slice A0_2 l0_2.length c0_2] 24 (0, 0))) := ⟨h5_⟩
        have n6_ : Aside0 (w136.heap[gb209]? = some (.cells #[.int .i64 a1_0, .int .i64 a1_1, .int .i64 a1_2] 26 (0, 0))) := ⟨h6_⟩
        have n7_ : Aside0 (w136.heap[gb225]? = some (.cells #[.int .i64 t219, .int .i64 t220, .slice Ao31 t221.length co31] 30 (0, 0))) := ⟨h7_⟩
        have n8_ : Aside0 (w136.heap[gb231]? = some (.cells #[.int .i64 t226, .int .i64 t227, .slice Ao41 t250.length co41] 30 (0, 0))) := ⟨h8_⟩
        have n9_ : Aside0 (w136.heap[gb241]? = some (.cells #[.int .i64 t235, .int .i64 t236, .slice Ao50 t237.length co50] 30 (0, 0))) := ⟨h9_⟩
        have n10_ : Aside0 (w136.heap[gb269]? = some (.cells #[.int .i64 0, .int .i64 0, .slice none 0 0] 30 (0, 0))) := ⟨h10_⟩
        have n11_ : Aside0 (w.heap.size ≤ gb269) := ⟨h11_⟩
        have n12_ : Aside0 (w.heap.size ≤ gb269) := ⟨h12_⟩
        have n13_ : Aside0 (gb208 ≠ gb269) := ⟨h13_⟩
        have n14_ : Aside0 (gb269 ≠ gb208) := ⟨h14_⟩
        have n15_ : Aside0 (gb209 ≠ gb269) := ⟨h15_⟩
        have n16_ : Aside0 (gb269 ≠ gb209) := ⟨h16_⟩
        have n17_ : Aside0 (gb225 ≠ gb269) := ⟨h17_⟩
        have n18_ : Aside0 (gb269 ≠ gb225) := ⟨h18_⟩
        have n19_ : Aside0 (gb231 ≠ gb269) := ⟨h19_⟩
        have n20_ : Aside0 (gb269 ≠ gb231) := ⟨h20_⟩
        have n21_ : Aside0 (gb241 ≠ gb269) := ⟨h21_⟩
        have n22_ : Aside0 (gb269 ≠ gb241) := ⟨h22_⟩
        have n23_ : Aside0 (Below w.heap.size w w136) := ⟨h23_⟩
        clear HO_226002
        clear HO_232002
        clear HO_242002
        clear BK208
        clear BK209
        clear BK225
        clear BK231
        clear BK241
        clear HB
        clear h0_ h1_ h2_ h3_ h4_ h5_ h6_ h7_ h8_ h9_ h10_ h11_ h12_ h13_ h14_ h15_ h16_ h17_ h18_ h19_ h20_ h21_ h22_ h23_
        have HO259 := n0_
        have HO267 := n1_
        have HO_226002 := n2_
        have HO_232002 := n3_
        have HO_242002 := n4_
        have BK208 := n5_
        have BK209 := n6_
        have BK225 := n7_
        have BK231 := n8_
        have BK241 := n9_
        have BK269 := n10_
        have GW269 := n11_
        have GE269 := n12_
        have NB208_269 := n13_
        have NB269_208 := n14_
        have NB209_269 := n15_
        have NB269_209 := n16_
        have NB225_269 := n17_
        have NB269_225 := n18_
        have NB231_269 := n19_
        have NB269_231 := n20_
        have NB241_269 := n21_
        have NB269_241 := n22_
        have HB := n23_
        clear n0_ n1_ n2_ n3_ n4_ n5_ n6_ n7_ n8_ n9_ n10_ n11_ n12_ n13_ n14_ n15_ n16_ n17_ n18_ n19_ n20_ n21_ n22_ n23_
        have hHeld : w136.cell? ⟨gb208, 0, none⟩ = some (.int .i64 a0_0) ∧ w136.cell? ⟨gb208, 1, none⟩ = some (.int .i64 a0_1) ∧ w136.cell? ⟨gb208, 2, none⟩ = some (.slice A0_2 l0_2.length c0_2) ∧ w136.cell? ⟨gb209, 0, none⟩ = some (.int .i64 a1_0) ∧ w136.cell? ⟨gb209, 1, none⟩ = some (.int .i64 a1_1) ∧ w136.cell? ⟨gb209, 2, none⟩ = some (.int .i64 a1_2) := hS_
        obtain ⟨Ao139, co139, eo139⟩ := Kd.R_slice HO267.out
        (first | subst eo139 | (injection eo139 with f1_ f2_ f3_; have f4_ := f1_.symm; have f5_ := f3_.symm; clear f1_ f2_ f3_; subst f4_; subst f5_))
        refine norm_ (a' := ?_) ?_ ?_
        rotate_left
        · simp only [putAll, Act.put, List.setIfInBounds_toArray, List.set_cons_zero, List.set_cons_succ]
          rfl
        refine one_ (i := 9) (N := none) #[true, true, true, true, true, true, true, true, true, true, false] rfl rfl (one_of HT_.out (by kernel_rfl)) (by decide) (fun K hK => ?_)
        have hs137 : w136.cell? ⟨gb269, 0, none⟩ = some (.int .i64 0) := (blk_cell BK269.out 0).trans rfl
        have hfs137 := blk_frozen BK269.out 0
        have hns137_0 := NB208_269.out
        have hns137_1 := NB209_269.out
        have hns137_2 := NB225_269.out
        have hns137_3 := NB231_269.out
        have hns137_4 := NB241_269.out
        have hms137_0 := NB269_208.out
        have hms137_1 := NB269_209.out
        have hms137_2 := NB269_225.out
        have hms137_3 := NB269_231.out
        have hms137_4 := NB269_241.out
        have hs138 : w136.cell? ⟨gb269, 1, none⟩ = some (.int .i64 0) := (blk_cell BK269.out 1).trans rfl
        have hfs138 := blk_frozen BK269.out 1
        have hns138_0 := NB208_269.out
        have hns138_1 := NB209_269.out
        have hns138_2 := NB225_269.out
        have hns138_3 := NB231_269.out
        have hns138_4 := NB241_269.out
        have hms138_0 := NB269_208.out
        have hms138_1 := NB269_209.out
        have hms138_2 := NB269_225.out
        have hms138_3 := NB269_231.out
        have hms138_4 := NB269_241.out
        have hs140 : w136.cell? ⟨gb269, 2, none⟩ = some (.slice none 0 0) := (blk_cell BK269.out 2).trans rfl
        have hfs140 := blk_frozen BK269.out 2
        have hns140_0 := NB208_269.out
        have hns140_1 := NB209_269.out
        have hns140_2 := NB225_269.out
        have hns140_3 := NB231_269.out
        have hns140_4 := NB241_269.out
        have hms140_0 := NB269_208.out
        have hms140_1 := NB269_209.out
        have hms140_2 := NB269_225.out
        have hms140_3 := NB269_231.out
        have hms140_4 := NB269_241.out
        refine skip_ (w1 := ?_) (by rfl) rfl ?_ ?_
        rotate_left
        · go_simp
          rfl
        refine hK.out _ _ ⟨((cell_far (p := ⟨gb269, _, none⟩) NB208_269.out _).trans (((cell_far (p := ⟨gb269, _, none⟩) NB208_269.out _).trans (((cell_far (p := ⟨gb269, _, none⟩) NB208_269.out _).trans (hHeld.1)))))), ((cell_far (p := ⟨gb269, _, none⟩) NB208_269.out _).trans (((cell_far (p := ⟨gb269, _, none⟩) NB208_269.out _).trans (((cell_far (p := ⟨gb269, _, none⟩) NB208_269.out _).trans (hHeld.2.1)))))), ((cell_far (p := ⟨gb269, _, none⟩) NB208_269.out _).trans (((cell_far (p := ⟨gb269, _, none⟩) NB208_269.out _).trans (((cell_far (p := ⟨gb269, _, none⟩) NB208_269.out _).trans (hHeld.2.2.1)))))), ((cell_far (p := ⟨gb269, _, none⟩) NB209_269.out _).trans (((cell_far (p := ⟨gb269, _, none⟩) NB209_269.out _).trans (((cell_far (p := ⟨gb269, _, none⟩) NB209_269.out _).trans (hHeld.2.2.2.1)))))), ((cell_far (p := ⟨gb269, _, none⟩) NB209_269.out _).trans (((cell_far (p := ⟨gb269, _, none⟩) NB209_269.out _).trans (((cell_far (p := ⟨gb269, _, none⟩) NB209_269.out _).trans (hHeld.2.2.2.2.1)))))), ((cell_far (p := ⟨gb269, _, none⟩) NB209_269.out _).trans (((cell_far (p := ⟨gb269, _, none⟩) NB209_269.out _).trans (((cell_far (p := ⟨gb269, _, none⟩) NB209_269.out _).trans (hHeld.2.2.2.2.2))))))⟩ (fun hHeld => ?_)
        clear hK K
        refine pure_ (i := 10) (N := some 15) (v := ?_) (a' := ?_) #[true, true, true, true, true, true, true, true, true, true, true] rfl rfl (any_of HT_.out (by kernel_rfl)) (fun _ _ _ h => h) (Or.inl ⟨by rfl, ?_⟩) ?_ ?_
        rotate_left
        · intro w'
          go_simp
          with_reducible rfl
        rotate_left
        · simp only [Act.put, List.setIfInBounds_toArray, List.set_cons_zero, List.set_cons_succ, i64_w, i32_w]
          rfl
        refine done_ (done_of HT_.out (by kernel_rfl)) ?_
        go_upto_region 25 with (fail)
        go_cut [95] (fun v95 wc => ∃ (kq : Nat) (x95_120 : Bool), v95 = .bool x95_120 ∧ Aside0 (laws_FnExactAddClue.j2 kq t252 x95_120 t235 t236 t253 = some r) ∧ Aside0 (kq ≤ kj78) ∧ Aside0 (Kd.R k34 34 wc w.heap.size (fun k_ => some k_ ≠ ((.slice Ao41 t250.length co41) : Value).ownBlock ∧ some k_ ≠ ((.slice Ao50 t237.length co50) : Value).ownBlock ∧ some k_ ≠ ((.slice Ao139 t265.length co139) : Value).ownBlock) (.slice Ao31 t221.length co31) t221) ∧ Aside0 (Kd.R k34 34 wc w.heap.size (fun k_ => some k_ ≠ ((.slice Ao31 t221.length co31) : Value).ownBlock ∧ some k_ ≠ ((.slice Ao50 t237.length co50) : Value).ownBlock ∧ some k_ ≠ ((.slice Ao139 t265.length co139) : Value).ownBlock) (.slice Ao41 t250.length co41) t250) ∧ Aside0 (Kd.R k34 34 wc w.heap.size (fun k_ => some k_ ≠ ((.slice Ao31 t221.length co31) : Value).ownBlock ∧ some k_ ≠ ((.slice Ao41 t250.length co41) : Value).ownBlock ∧ some k_ ≠ ((.slice Ao139 t265.length co139) : Value).ownBlock) (.slice Ao50 t237.length co50) t253) ∧ Aside0 (Kd.R k34 34 wc w.heap.size (fun k_ => some k_ ≠ ((.slice Ao31 t221.length co31) : Value).ownBlock ∧ some k_ ≠ ((.slice Ao41 t250.length co41) : Value).ownBlock ∧ some k_ ≠ ((.slice Ao50 t237.length co50) : Value).ownBlock) (.slice Ao139 t265.length co139) t265) ∧ Aside0 (wc.heap[gb208]? = some (.cells #[.int .i64 a0_0, .int .i64 a0_1, (.slice A0_2 l0_2.length c0_2)] 24 (0, 0))) ∧ Aside0 (wc.heap[gb209]? = some (.cells #[.int .i64 a1_0, .int .i64 a1_1, .int .i64 a1_2] 26 (0, 0))) ∧ Aside0 (wc.heap[gb225]? = some (.cells #[.int .i64 t219, .int .i64 t220, (.slice Ao31 t221.length co31)] 30 (0, 0))) ∧ Aside0 (wc.heap[gb231]? = some (.cells #[.int .i64 t226, .int .i64 t227, (.slice Ao41 t250.length co41)] 30 (0, 0))) ∧ Aside0 (wc.heap[gb241]? = some (.cells #[.int .i64 t235, .int .i64 t236, (.slice Ao50 t237.length co50)] 30 (0, 0))) ∧ Aside0 (wc.heap[gb269]? = some (.cells #[.int .i64 t263, .int .i64 t264, (.slice Ao139 t265.length co139)] 30 (0, 0))) ∧ Aside0 (Below w.heap.size w wc))
        case first =>
          have H := HC121.out
          clear HC121
          replace H := Option.bind_eq_some_iff.mp H
          obtain ⟨t270, A1410, H⟩ := H
          try dsimp only at H
          have A141 := As_ A1410
          clear A1410
          by_cases c142 : t270 = true
          · subst c142
            have H1 : (laws_FnExactAddClue.j2 kj78 t252 (t268 != t224) t235 t236 t253) = some r := by rw [if_pos rfl] at H; exact H
            clear H
            have H := H1
            clear H1
            have H' := As_ H
            clear H
            have hnb143 := NB269_208.out
            have hnc143 := NB208_269.out
            have hnb144 := NB269_209.out
            have hnc144 := NB209_269.out
            have hnb145 := NB269_225.out
            have hnc145 := NB225_269.out
            have hnb146 := NB269_231.out
            have hnc146 := NB231_269.out
            have hnb147 := NB269_241.out
            have hnc147 := NB241_269.out
            have hcz148_0 : w136.cell? ⟨gb269, 0, none⟩ = some (.int .i64 0) := (blk_cell BK269.out 0).trans rfl
            have hcz148_1 : w136.cell? ⟨gb269, 1, none⟩ = some (.int .i64 0) := (blk_cell BK269.out 1).trans rfl
            have hcz148_2 : w136.cell? ⟨gb269, 2, none⟩ = some (.slice none 0 0) := (blk_cell BK269.out 2).trans rfl
            have hfz148_0 := blk_frozen BK269.out 0
            have hfz148_1 := blk_frozen BK269.out 1
            have hfz148_2 := blk_frozen BK269.out 2
            have hnb149 := NB225_208.out
            have hnc149 := NB208_225.out
            have hnb150 := NB225_209.out
            have hnc150 := NB209_225.out
            have hnb151 := NB225_231.out
            have hnc151 := NB231_225.out
            have hnb152 := NB225_241.out
            have hnc152 := NB241_225.out
            have hcz153_0 : w136.cell? ⟨gb225, 0, none⟩ = some (.int .i64 t219) := (blk_cell BK225.out 0).trans rfl
            have hcz153_1 : w136.cell? ⟨gb225, 1, none⟩ = some (.int .i64 t220) := (blk_cell BK225.out 1).trans rfl
            have hcz153_2 : w136.cell? ⟨gb225, 2, none⟩ = some (.slice Ao31 t221.length co31) := (blk_cell BK225.out 2).trans rfl
            have hfz153_0 := blk_frozen BK225.out 0
            have hfz153_1 := blk_frozen BK225.out 1
            have hfz153_2 := blk_frozen BK225.out 2
            go_wp2_with (first | ((with_reducible refine gate_callee (f := 12) rfl ?_); refine goesL_ (some 89) rfl rfl Try.func12 (by kernel_rfl) rfl #[.agg #[.int .i64 t263, .int .i64 t264, .slice Ao139 t265.length co139], .agg #[.int .i64 t219, .int .i64 t220, .slice Ao31 t221.length co31]] rfl (by (try simp only [List.map_toArray, List.map_cons, List.map_nil]); first | done | rfl | (simp only [List.length_drop, List.length_take]; rfl)) ?_; (with_reducible refine (laws_eqPuzzle.calls kj78 t263 t264 _ _ t265 t219 t220 _ _ t221 true _ ?side1 ?side2 ?side3 ?side4 A141.out).mono ?_); (case side1 => refine (Kd.R_reads' (e := 34) (base := w.heap.size) (ok := fun k_ => (some k_ ≠ (v258 : Value).ownBlock ∧ (some k_ ≠ (.slice Ao31 t221.length co31 : Value).ownBlock ∧ (some k_ ≠ (.slice Ao41 t250.length co41 : Value).ownBlock ∧ some k_ ≠ (.slice Ao50 t237.length co50 : Value).ownBlock)))) (n := t265.length) (c := co139) ?_).2.2; exact (by (with_reducible repeat (first | apply Kd.R_alloc | apply Kd.R_drewN | apply Kd.R_drew)); exact (Kd.R_mono (Kd.R_far (p := ⟨gb269, 2, none⟩) (Kd.R_far (p := ⟨gb269, 1, none⟩) (Kd.R_far (p := ⟨gb269, 0, none⟩) (Kd.R_types HO267.out BK269.out (by decide)) (fun _ hk => hk.2) (.int .i64 t263)) (fun _ hk => hk.2) (.int .i64 t264)) (fun _ hk => hk.2) (.slice Ao139 t265.length co139)) (fun _ h_ => h_.1)))); (case side2 => exact (Kd.R_reads' HO267.out).2.1); (case side3 => refine (Kd.R_reads' (e := 34) (base := w.heap.size) (ok := fun k_ => (some k_ ≠ (v258 : Value).ownBlock ∧ (some k_ ≠ (.slice Ao139 t265.length co139 : Value).ownBlock ∧ (some k_ ≠ (.slice Ao41 t250.length co41 : Value).ownBlock ∧ some k_ ≠ (.slice Ao50 t237.length co50 : Value).ownBlock)))) (n := t221.length) (c := co31) ?_).2.2; exact (by (with_reducible repeat (first | apply Kd.R_alloc | apply Kd.R_drewN | apply Kd.R_drew)); exact (Kd.R_mono (Kd.R_far (p := ⟨gb269, 2, none⟩) (Kd.R_far (p := ⟨gb269, 1, none⟩) (Kd.R_far (p := ⟨gb269, 0, none⟩) (Kd.R_types HO_226002.out BK269.out (by decide)) (fun _ hk => hk.2) (.int .i64 t263)) (fun _ hk => hk.2) (.int .i64 t264)) (fun _ hk => hk.2) (.slice Ao139 t265.length co139)) (fun _ h_ => h_.1)))); (case side4 => exact (Kd.R_reads' HO_226002.out).2.1); rintro e w154 ⟨rfl, hb⟩; refine ⟨_, rfl, ?_⟩; replace HO_226002 := As_ (Kd.R_below (by (with_reducible repeat (first | apply Kd.R_alloc | apply Kd.R_drewN | apply Kd.R_drew)); exact (Kd.R_mono (Kd.R_far (p := ⟨gb269, 2, none⟩) (Kd.R_far (p := ⟨gb269, 1, none⟩) (Kd.R_far (p := ⟨gb269, 0, none⟩) (Kd.R_types HO_226002.out BK269.out (by decide)) (fun _ hk => hk.2) (.int .i64 t263)) (fun _ hk => hk.2) (.int .i64 t264)) (fun _ hk => hk.2) (.slice Ao139 t265.length co139)) (fun _ h_ => h_.1))) hb); replace HO_232002 := As_ (Kd.R_below (by (with_reducible repeat (first | apply Kd.R_alloc | apply Kd.R_drewN | apply Kd.R_drew)); exact (Kd.R_mono (Kd.R_far (p := ⟨gb269, 2, none⟩) (Kd.R_far (p := ⟨gb269, 1, none⟩) (Kd.R_far (p := ⟨gb269, 0, none⟩) (Kd.R_types HO_232002.out BK269.out (by decide)) (fun _ hk => hk.2) (.int .i64 t263)) (fun _ hk => hk.2) (.int .i64 t264)) (fun _ hk => hk.2) (.slice Ao139 t265.length co139)) (fun _ h_ => h_.1))) hb); replace HO_242002 := As_ (Kd.R_below (by (with_reducible repeat (first | apply Kd.R_alloc | apply Kd.R_drewN | apply Kd.R_drew)); exact (Kd.R_mono (Kd.R_far (p := ⟨gb269, 2, none⟩) (Kd.R_far (p := ⟨gb269, 1, none⟩) (Kd.R_far (p := ⟨gb269, 0, none⟩) (Kd.R_types HO_242002.out BK269.out (by decide)) (fun _ hk => hk.2) (.int .i64 t263)) (fun _ hk => hk.2) (.int .i64 t264)) (fun _ hk => hk.2) (.slice Ao139 t265.length co139)) (fun _ h_ => h_.1))) hb); replace HO259 := As_ (Kd.R_below (by (with_reducible repeat (first | apply Kd.R_alloc | apply Kd.R_drewN | apply Kd.R_drew)); exact (Kd.R_mono (Kd.R_far (p := ⟨gb269, 2, none⟩) (Kd.R_far (p := ⟨gb269, 1, none⟩) (Kd.R_far (p := ⟨gb269, 0, none⟩) (Kd.R_types HO259.out BK269.out (by decide)) (fun _ hk => hk.2) (.int .i64 t263)) (fun _ hk => hk.2) (.int .i64 t264)) (fun _ hk => hk.2) (.slice Ao139 t265.length co139)) (fun _ h_ => h_.1))) hb); replace HO267 := As_ (Kd.R_below (by (with_reducible repeat (first | apply Kd.R_alloc | apply Kd.R_drewN | apply Kd.R_drew)); exact (Kd.R_mono (Kd.R_far (p := ⟨gb269, 2, none⟩) (Kd.R_far (p := ⟨gb269, 1, none⟩) (Kd.R_far (p := ⟨gb269, 0, none⟩) (Kd.R_types HO267.out BK269.out (by decide)) (fun _ hk => hk.2) (.int .i64 t263)) (fun _ hk => hk.2) (.int .i64 t264)) (fun _ hk => hk.2) (.slice Ao139 t265.length co139)) (fun _ h_ => h_.1))) hb); replace BK208 := As_ (blk_below (g := gb208) (o := .cells #[.int .i64 a0_0, .int .i64 a0_1, .slice A0_2 l0_2.length c0_2] 24 (0, 0)) (by (with_reducible repeat (first | refine blk_drewN ?_ _ | refine blk_drew ?_ | refine blk_alloc ?_ _)); refine blk_far ?_ NB208_269.out _; refine blk_far ?_ NB208_269.out _; refine blk_far ?_ NB208_269.out _; (with_reducible repeat (first | refine blk_drewN ?_ _ | refine blk_drew ?_ | refine blk_alloc ?_ _)); exact BK208.out) hb); replace BK209 := As_ (blk_below (g := gb209) (o := .cells #[.int .i64 a1_0, .int .i64 a1_1, .int .i64 a1_2] 26 (0, 0)) (by (with_reducible repeat (first | refine blk_drewN ?_ _ | refine blk_drew ?_ | refine blk_alloc ?_ _)); refine blk_far ?_ NB209_269.out _; refine blk_far ?_ NB209_269.out _; refine blk_far ?_ NB209_269.out _; (with_reducible repeat (first | refine blk_drewN ?_ _ | refine blk_drew ?_ | refine blk_alloc ?_ _)); exact BK209.out) hb); replace BK225 := As_ (blk_below (g := gb225) (o := .cells #[.int .i64 t219, .int .i64 t220, .slice Ao31 t221.length co31] 30 (0, 0)) (by (with_reducible repeat (first | refine blk_drewN ?_ _ | refine blk_drew ?_ | refine blk_alloc ?_ _)); refine blk_far ?_ NB225_269.out _; refine blk_far ?_ NB225_269.out _; refine blk_far ?_ NB225_269.out _; (with_reducible repeat (first | refine blk_drewN ?_ _ | refine blk_drew ?_ | refine blk_alloc ?_ _)); exact BK225.out) hb); replace BK231 := As_ (blk_below (g := gb231) (o := .cells #[.int .i64 t226, .int .i64 t227, .slice Ao41 t250.length co41] 30 (0, 0)) (by (with_reducible repeat (first | refine blk_drewN ?_ _ | refine blk_drew ?_ | refine blk_alloc ?_ _)); refine blk_far ?_ NB231_269.out _; refine blk_far ?_ NB231_269.out _; refine blk_far ?_ NB231_269.out _; (with_reducible repeat (first | refine blk_drewN ?_ _ | refine blk_drew ?_ | refine blk_alloc ?_ _)); exact BK231.out) hb); replace BK241 := As_ (blk_below (g := gb241) (o := .cells #[.int .i64 t235, .int .i64 t236, .slice Ao50 t237.length co50] 30 (0, 0)) (by (with_reducible repeat (first | refine blk_drewN ?_ _ | refine blk_drew ?_ | refine blk_alloc ?_ _)); refine blk_far ?_ NB241_269.out _; refine blk_far ?_ NB241_269.out _; refine blk_far ?_ NB241_269.out _; (with_reducible repeat (first | refine blk_drewN ?_ _ | refine blk_drew ?_ | refine blk_alloc ?_ _)); exact BK241.out) hb); replace BK269 := As_ (blk_below (g := gb269) (o := .cells #[.int .i64 t263, .int .i64 t264, .slice Ao139 t265.length co139] 30 (0, 0)) (by (with_reducible repeat (first | refine blk_drewN ?_ _ | refine blk_drew ?_ | refine blk_alloc ?_ _)); refine blk_put (cs := #[.int .i64 t263, .int .i64 t264, .slice none 0 0]) ?_ 2 _ rfl; refine blk_put (cs := #[.int .i64 t263, .int .i64 0, .slice none 0 0]) ?_ 1 _ rfl; refine blk_put (cs := #[.int .i64 0, .int .i64 0, .slice none 0 0]) ?_ 0 _ rfl; (with_reducible repeat (first | refine blk_drewN ?_ _ | refine blk_drew ?_ | refine blk_alloc ?_ _)); exact BK269.out) hb); replace HB := As_ (below_step (by repeat (first | (with_reducible first | exact HB.out | apply below_alloc | apply pw_below_drewN | apply below_drew1 | refine below_setA ?_ (by assumption)) | exact HB.out)) hb); (try clear hb)))
            go_meet
            case rel => exact ⟨_, ((t268 != t224)), (by first | rfl | (simp; done) | (simp [*]; done)), H', ⟨by have := HJ15.out; have := HJ78.out; first | omega | exact Nat.le_refl _⟩, ⟨by (try simp only [hl232002_78]); (with_reducible repeat (first | apply Kd.R_alloc | apply Kd.R_drewN | apply Kd.R_drew)); exact Kd.R_mono HO_226002.out (fun _ hk => ⟨hk.2.2.1, ⟨hk.2.2.2, hk.2.1⟩⟩)⟩, ⟨by (try simp only [hl232002_78]); (with_reducible repeat (first | apply Kd.R_alloc | apply Kd.R_drewN | apply Kd.R_drew)); exact Kd.R_mono HO_232002.out (fun _ hk => ⟨hk.2.2.1, ⟨hk.2.2.2, hk.2.1⟩⟩)⟩, ⟨by (try simp only [hl232002_78]); (with_reducible repeat (first | apply Kd.R_alloc | apply Kd.R_drewN | apply Kd.R_drew)); exact Kd.R_mono HO_242002.out (fun _ hk => ⟨hk.2.2.1, ⟨hk.2.2.2, hk.2.1⟩⟩)⟩, ⟨by (try simp only [hl232002_78]); (with_reducible repeat (first | apply Kd.R_alloc | apply Kd.R_drewN | apply Kd.R_drew)); exact Kd.R_mono HO267.out (fun _ hk => ⟨hk.2.1, ⟨hk.2.2.1, hk.2.2.2⟩⟩)⟩, ⟨by (try simp only [hl232002_78]); (with_reducible repeat (first | refine blk_drewN ?_ _ | refine blk_drew ?_ | refine blk_alloc ?_ _)); exact BK208.out⟩, ⟨by (try simp only [hl232002_78]); (with_reducible repeat (first | refine blk_drewN ?_ _ | refine blk_drew ?_ | refine blk_alloc ?_ _)); exact BK209.out⟩, ⟨by (try simp only [hl232002_78]); (with_reducible repeat (first | refine blk_drewN ?_ _ | refine blk_drew ?_ | refine blk_alloc ?_ _)); exact BK225.out⟩, ⟨by (try simp only [hl232002_78]); (with_reducible repeat (first | refine blk_drewN ?_ _ | refine blk_drew ?_ | refine blk_alloc ?_ _)); exact BK231.out⟩, ⟨by (try simp only [hl232002_78]); (with_reducible repeat (first | refine blk_drewN ?_ _ | refine blk_drew ?_ | refine blk_alloc ?_ _)); exact BK241.out⟩, ⟨by (try simp only [hl232002_78]); (with_reducible repeat (first | refine blk_drewN ?_ _ | refine blk_drew ?_ | refine blk_alloc ?_ _)); exact BK269.out⟩, ⟨by repeat (first | (with_reducible first | exact HB.out | apply below_alloc | apply pw_below_drewN | apply below_drew1 | refine below_setA ?_ (by assumption)) | exact HB.out)⟩⟩
          · replace c142 := Bool.eq_false_iff.mpr c142
            subst c142
            have H1 : (laws_FnExactAddClue.j2 kj78 t252 true t235 t236 t253) = some r := by rw [if_neg (show ¬ (false = true) by decide)] at H; exact H
            clear H
            have H := H1
            clear H1
            have H' := As_ H
            clear H
            have hnb155 := NB269_208.out
            have hnc155 := NB208_269.out
            have hnb156 := NB269_209.out
            have hnc156 := NB209_269.out
            have hnb157 := NB269_225.out
            have hnc157 := NB225_269.out
            have hnb158 := NB269_231.out
            have hnc158 := NB231_269.out
            have hnb159 := NB269_241.out
            have hnc159 := NB241_269.out
            have hcz160_0 : w136.cell? ⟨gb269, 0, none⟩ = some (.int .i64 0) := (blk_cell BK269.out 0).trans rfl
            have hcz160_1 : w136.cell? ⟨gb269, 1, none⟩ = some (.int .i64 0) := (blk_cell BK269.out 1).trans rfl
            have hcz160_2 : w136.cell? ⟨gb269, 2, none⟩ = some (.slice none 0 0) := (blk_cell BK269.out 2).trans rfl
            have hfz160_0 := blk_frozen BK269.out 0
            have hfz160_1 := blk_frozen BK269.out 1
            have hfz160_2 := blk_frozen BK269.out 2
            have hnb161 := NB225_208.out
            have hnc161 := NB208_225.out
            have hnb162 := NB225_209.out
            have hnc162 := NB209_225.out
            have hnb163 := NB225_231.out
            have hnc163 := NB231_225.out
            have hnb164 := NB225_241.out
            have hnc164 := NB241_225.out
            have hcz165_0 : w136.cell? ⟨gb225, 0, none⟩ = some (.int .i64 t219) := (blk_cell BK225.out 0).trans rfl
            have hcz165_1 : w136.cell? ⟨gb225, 1, none⟩ = some (.int .i64 t220) := (blk_cell BK225.out 1).trans rfl
            have hcz165_2 : w136.cell? ⟨gb225, 2, none⟩ = some (.slice Ao31 t221.length co31) := (blk_cell BK225.out 2).trans rfl
            have hfz165_0 := blk_frozen BK225.out 0
            have hfz165_1 := blk_frozen BK225.out 1
            have hfz165_2 := blk_frozen BK225.out 2
            go_wp2_with (first | ((with_reducible refine gate_callee (f := 12) rfl ?_); refine goesL_ (some 89) rfl rfl Try.func12 (by kernel_rfl) rfl #[.agg #[.int .i64 t263, .int .i64 t264, .slice Ao139 t265.length co139], .agg #[.int .i64 t219, .int .i64 t220, .slice Ao31 t221.length co31]] rfl (by (try simp only [List.map_toArray, List.map_cons, List.map_nil]); first | done | rfl | (simp only [List.length_drop, List.length_take]; rfl)) ?_; (with_reducible refine (laws_eqPuzzle.calls kj78 t263 t264 _ _ t265 t219 t220 _ _ t221 false _ ?side1 ?side2 ?side3 ?side4 A141.out).mono ?_); (case side1 => refine (Kd.R_reads' (e := 34) (base := w.heap.size) (ok := fun k_ => (some k_ ≠ (v258 : Value).ownBlock ∧ (some k_ ≠ (.slice Ao31 t221.length co31 : Value).ownBlock ∧ (some k_ ≠ (.slice Ao41 t250.length co41 : Value).ownBlock ∧ some k_ ≠ (.slice Ao50 t237.length co50 : Value).ownBlock)))) (n := t265.length) (c := co139) ?_).2.2; exact (by (with_reducible repeat (first | apply Kd.R_alloc | apply Kd.R_drewN | apply Kd.R_drew)); exact (Kd.R_mono (Kd.R_far (p := ⟨gb269, 2, none⟩) (Kd.R_far (p := ⟨gb269, 1, none⟩) (Kd.R_far (p := ⟨gb269, 0, none⟩) (Kd.R_types HO267.out BK269.out (by decide)) (fun _ hk => hk.2) (.int .i64 t263)) (fun _ hk => hk.2) (.int .i64 t264)) (fun _ hk => hk.2) (.slice Ao139 t265.length co139)) (fun _ h_ => h_.1)))); (case side2 => exact (Kd.R_reads' HO267.out).2.1); (case side3 => refine (Kd.R_reads' (e := 34) (base := w.heap.size) (ok := fun k_ => (some k_ ≠ (v258 : Value).ownBlock ∧ (some k_ ≠ (.slice Ao139 t265.length co139 : Value).ownBlock ∧ (some k_ ≠ (.slice Ao41 t250.length co41 : Value).ownBlock ∧ some k_ ≠ (.slice Ao50 t237.length co50 : Value).ownBlock)))) (n := t221.length) (c := co31) ?_).2.2; exact (by (with_reducible repeat (first | apply Kd.R_alloc | apply Kd.R_drewN | apply Kd.R_drew)); exact (Kd.R_mono (Kd.R_far (p := ⟨gb269, 2, none⟩) (Kd.R_far (p := ⟨gb269, 1, none⟩) (Kd.R_far (p := ⟨gb269, 0, none⟩) (Kd.R_types HO_226002.out BK269.out (by decide)) (fun _ hk => hk.2) (.int .i64 t263)) (fun _ hk => hk.2) (.int .i64 t264)) (fun _ hk => hk.2) (.slice Ao139 t265.length co139)) (fun _ h_ => h_.1)))); (case side4 => exact (Kd.R_reads' HO_226002.out).2.1); rintro e w166 ⟨rfl, hb⟩; refine ⟨_, rfl, ?_⟩; replace HO_226002 := As_ (Kd.R_below (by (with_reducible repeat (first | apply Kd.R_alloc | apply Kd.R_drewN | apply Kd.R_drew)); exact (Kd.R_mono (Kd.R_far (p := ⟨gb269, 2, none⟩) (Kd.R_far (p := ⟨gb269, 1, none⟩) (Kd.R_far (p := ⟨gb269, 0, none⟩) (Kd.R_types HO_226002.out BK269.out (by decide)) (fun _ hk => hk.2) (.int .i64 t263)) (fun _ hk => hk.2) (.int .i64 t264)) (fun _ hk => hk.2) (.slice Ao139 t265.length co139)) (fun _ h_ => h_.1))) hb); replace HO_232002 := As_ (Kd.R_below (by (with_reducible repeat (first | apply Kd.R_alloc | apply Kd.R_drewN | apply Kd.R_drew)); exact (Kd.R_mono (Kd.R_far (p := ⟨gb269, 2, none⟩) (Kd.R_far (p := ⟨gb269, 1, none⟩) (Kd.R_far (p := ⟨gb269, 0, none⟩) (Kd.R_types HO_232002.out BK269.out (by decide)) (fun _ hk => hk.2) (.int .i64 t263)) (fun _ hk => hk.2) (.int .i64 t264)) (fun _ hk => hk.2) (.slice Ao139 t265.length co139)) (fun _ h_ => h_.1))) hb); replace HO_242002 := As_ (Kd.R_below (by (with_reducible repeat (first | apply Kd.R_alloc | apply Kd.R_drewN | apply Kd.R_drew)); exact (Kd.R_mono (Kd.R_far (p := ⟨gb269, 2, none⟩) (Kd.R_far (p := ⟨gb269, 1, none⟩) (Kd.R_far (p := ⟨gb269, 0, none⟩) (Kd.R_types HO_242002.out BK269.out (by decide)) (fun _ hk => hk.2) (.int .i64 t263)) (fun _ hk => hk.2) (.int .i64 t264)) (fun _ hk => hk.2) (.slice Ao139 t265.length co139)) (fun _ h_ => h_.1))) hb); replace HO259 := As_ (Kd.R_below (by (with_reducible repeat (first | apply Kd.R_alloc | apply Kd.R_drewN | apply Kd.R_drew)); exact (Kd.R_mono (Kd.R_far (p := ⟨gb269, 2, none⟩) (Kd.R_far (p := ⟨gb269, 1, none⟩) (Kd.R_far (p := ⟨gb269, 0, none⟩) (Kd.R_types HO259.out BK269.out (by decide)) (fun _ hk => hk.2) (.int .i64 t263)) (fun _ hk => hk.2) (.int .i64 t264)) (fun _ hk => hk.2) (.slice Ao139 t265.length co139)) (fun _ h_ => h_.1))) hb); replace HO267 := As_ (Kd.R_below (by (with_reducible repeat (first | apply Kd.R_alloc | apply Kd.R_drewN | apply Kd.R_drew)); exact (Kd.R_mono (Kd.R_far (p := ⟨gb269, 2, none⟩) (Kd.R_far (p := ⟨gb269, 1, none⟩) (Kd.R_far (p := ⟨gb269, 0, none⟩) (Kd.R_types HO267.out BK269.out (by decide)) (fun _ hk => hk.2) (.int .i64 t263)) (fun _ hk => hk.2) (.int .i64 t264)) (fun _ hk => hk.2) (.slice Ao139 t265.length co139)) (fun _ h_ => h_.1))) hb); replace BK208 := As_ (blk_below (g := gb208) (o := .cells #[.int .i64 a0_0, .int .i64 a0_1, .slice A0_2 l0_2.length c0_2] 24 (0, 0)) (by (with_reducible repeat (first | refine blk_drewN ?_ _ | refine blk_drew ?_ | refine blk_alloc ?_ _)); refine blk_far ?_ NB208_269.out _; refine blk_far ?_ NB208_269.out _; refine blk_far ?_ NB208_269.out _; (with_reducible repeat (first | refine blk_drewN ?_ _ | refine blk_drew ?_ | refine blk_alloc ?_ _)); exact BK208.out) hb); replace BK209 := As_ (blk_below (g := gb209) (o := .cells #[.int .i64 a1_0, .int .i64 a1_1, .int .i64 a1_2] 26 (0, 0)) (by (with_reducible repeat (first | refine blk_drewN ?_ _ | refine blk_drew ?_ | refine blk_alloc ?_ _)); refine blk_far ?_ NB209_269.out _; refine blk_far ?_ NB209_269.out _; refine blk_far ?_ NB209_269.out _; (with_reducible repeat (first | refine blk_drewN ?_ _ | refine blk_drew ?_ | refine blk_alloc ?_ _)); exact BK209.out) hb); replace BK225 := As_ (blk_below (g := gb225) (o := .cells #[.int .i64 t219, .int .i64 t220, .slice Ao31 t221.length co31] 30 (0, 0)) (by (with_reducible repeat (first | refine blk_drewN ?_ _ | refine blk_drew ?_ | refine blk_alloc ?_ _)); refine blk_far ?_ NB225_269.out _; refine blk_far ?_ NB225_269.out _; refine blk_far ?_ NB225_269.out _; (with_reducible repeat (first | refine blk_drewN ?_ _ | refine blk_drew ?_ | refine blk_alloc ?_ _)); exact BK225.out) hb); replace BK231 := As_ (blk_below (g := gb231) (o := .cells #[.int .i64 t226, .int .i64 t227, .slice Ao41 t250.length co41] 30 (0, 0)) (by (with_reducible repeat (first | refine blk_drewN ?_ _ | refine blk_drew ?_ | refine blk_alloc ?_ _)); refine blk_far ?_ NB231_269.out _; refine blk_far ?_ NB231_269.out _; refine blk_far ?_ NB231_269.out _; (with_reducible repeat (first | refine blk_drewN ?_ _ | refine blk_drew ?_ | refine blk_alloc ?_ _)); exact BK231.out) hb); replace BK241 := As_ (blk_below (g := gb241) (o := .cells #[.int .i64 t235, .int .i64 t236, .slice Ao50 t237.length co50] 30 (0, 0)) (by (with_reducible repeat (first | refine blk_drewN ?_ _ | refine blk_drew ?_ | refine blk_alloc ?_ _)); refine blk_far ?_ NB241_269.out _; refine blk_far ?_ NB241_269.out _; refine blk_far ?_ NB241_269.out _; (with_reducible repeat (first | refine blk_drewN ?_ _ | refine blk_drew ?_ | refine blk_alloc ?_ _)); exact BK241.out) hb); replace BK269 := As_ (blk_below (g := gb269) (o := .cells #[.int .i64 t263, .int .i64 t264, .slice Ao139 t265.length co139] 30 (0, 0)) (by (with_reducible repeat (first | refine blk_drewN ?_ _ | refine blk_drew ?_ | refine blk_alloc ?_ _)); refine blk_put (cs := #[.int .i64 t263, .int .i64 t264, .slice none 0 0]) ?_ 2 _ rfl; refine blk_put (cs := #[.int .i64 t263, .int .i64 0, .slice none 0 0]) ?_ 1 _ rfl; refine blk_put (cs := #[.int .i64 0, .int .i64 0, .slice none 0 0]) ?_ 0 _ rfl; (with_reducible repeat (first | refine blk_drewN ?_ _ | refine blk_drew ?_ | refine blk_alloc ?_ _)); exact BK269.out) hb); replace HB := As_ (below_step (by repeat (first | (with_reducible first | exact HB.out | apply below_alloc | apply pw_below_drewN | apply below_drew1 | refine below_setA ?_ (by assumption)) | exact HB.out)) hb); (try clear hb)))
            go_meet
            case rel => exact ⟨_, (true), (by first | rfl | (simp; done) | (simp [*]; done)), H', ⟨by have := HJ15.out; have := HJ78.out; first | omega | exact Nat.le_refl _⟩, ⟨by (try simp only [hl232002_78]); (with_reducible repeat (first | apply Kd.R_alloc | apply Kd.R_drewN | apply Kd.R_drew)); exact Kd.R_mono HO_226002.out (fun _ hk => ⟨hk.2.2.1, ⟨hk.2.2.2, hk.2.1⟩⟩)⟩, ⟨by (try simp only [hl232002_78]); (with_reducible repeat (first | apply Kd.R_alloc | apply Kd.R_drewN | apply Kd.R_drew)); exact Kd.R_mono HO_232002.out (fun _ hk => ⟨hk.2.2.1, ⟨hk.2.2.2, hk.2.1⟩⟩)⟩, ⟨by (try simp only [hl232002_78]); (with_reducible repeat (first | apply Kd.R_alloc | apply Kd.R_drewN | apply Kd.R_drew)); exact Kd.R_mono HO_242002.out (fun _ hk => ⟨hk.2.2.1, ⟨hk.2.2.2, hk.2.1⟩⟩)⟩, ⟨by (try simp only [hl232002_78]); (with_reducible repeat (first | apply Kd.R_alloc | apply Kd.R_drewN | apply Kd.R_drew)); exact Kd.R_mono HO267.out (fun _ hk => ⟨hk.2.1, ⟨hk.2.2.1, hk.2.2.2⟩⟩)⟩, ⟨by (try simp only [hl232002_78]); (with_reducible repeat (first | refine blk_drewN ?_ _ | refine blk_drew ?_ | refine blk_alloc ?_ _)); exact BK208.out⟩, ⟨by (try simp only [hl232002_78]); (with_reducible repeat (first | refine blk_drewN ?_ _ | refine blk_drew ?_ | refine blk_alloc ?_ _)); exact BK209.out⟩, ⟨by (try simp only [hl232002_78]); (with_reducible repeat (first | refine blk_drewN ?_ _ | refine blk_drew ?_ | refine blk_alloc ?_ _)); exact BK225.out⟩, ⟨by (try simp only [hl232002_78]); (with_reducible repeat (first | refine blk_drewN ?_ _ | refine blk_drew ?_ | refine blk_alloc ?_ _)); exact BK231.out⟩, ⟨by (try simp only [hl232002_78]); (with_reducible repeat (first | refine blk_drewN ?_ _ | refine blk_drew ?_ | refine blk_alloc ?_ _)); exact BK241.out⟩, ⟨by (try simp only [hl232002_78]); (with_reducible repeat (first | refine blk_drewN ?_ _ | refine blk_drew ?_ | refine blk_alloc ?_ _)); exact BK269.out⟩, ⟨by repeat (first | (with_reducible first | exact HB.out | apply below_alloc | apply pw_below_drewN | apply below_drew1 | refine below_setA ?_ (by assumption)) | exact HB.out)⟩⟩
        case rest =>
          clear HC121
          try clear c1; try clear p2; try clear c9; try clear c10; try clear c11; try clear c12; try clear c14; try clear c15; try clear c16; try clear c142; try clear c143; try clear c144; try clear c145; try clear c146; try clear c147; try clear c149; try clear c150; try clear c151; try clear c152; try clear c155; try clear c156; try clear c157; try clear c158; try clear c159; try clear c161; try clear c162; try clear c163; try clear c164; try clear hcz148_0; try clear hcz148_1; try clear hcz148_2; try clear hcz153_0; try clear hcz153_1; try clear hcz153_2; try clear hcz160_0; try clear hcz160_1; try clear hcz160_2; try clear hcz165_0; try clear hcz165_1; try clear hcz165_2; try clear hfz148_0; try clear hfz148_1; try clear hfz148_2; try clear hfz153_0; try clear hfz153_1; try clear hfz153_2; try clear hfz160_0; try clear hfz160_1; try clear hfz160_2; try clear hfz165_0; try clear hfz165_1; try clear hfz165_2
          obtain ⟨kq, x95_120, rfl, HA, HJ120, HO_226002, HO_232002, HO_242002, HO_270002, BK208, BK209, BK225, BK231, BK241, BK269, HB⟩ := hcut
          have hl242002_120 := (Kd.R_reads' HO_242002.out).1
          rw [hl242002_120] at HO_242002
          (try simp only [hl242002_120])
          (try simp only [hl242002_120] at BK208)
          (try simp only [hl242002_120] at BK209)
          (try simp only [hl242002_120] at BK225)
          (try simp only [hl242002_120] at BK231)
          (try simp only [hl242002_120] at BK241)
          (try simp only [hl242002_120] at BK269)
          (try simp only [hl242002_120] at HO_226002)
          (try simp only [hl242002_120] at HO_232002)
          (try simp only [hl242002_120] at HO_270002)
          rcases kq with _ | kj120
          · exact absurd HA.out (by simp [laws_FnExactAddClue.j2])
          have H := HA.out
          clear HA
          simp only [laws_FnExactAddClue.j2] at H
          by_cases c167 : x95_120 = true
          · subst c167
            have H1 : (none) = some r := by rw [if_pos rfl] at H; exact H
            clear H
            have H := H1
            clear H1
            exact absurd H (by simp)
          replace c167 := Bool.eq_false_iff.mpr c167
          subst c167
          have H1 : ((laws_heldPuzzle.f kj120 t235 t236 t253 1).bind fun t271 => (if t271 < 0 then (none) else (if t271 = t252 then (some true) else (none)))) = some r := by rw [if_neg (show ¬ (false = true) by decide)] at H; exact H
          clear H
          have H := H1
          clear H1
          replace H := Option.bind_eq_some_iff.mp H
          obtain ⟨t271, A1680, H⟩ := H
          try dsimp only at H
          have A168 := As_ A1680
          clear A1680
          by_cases c169 : t271 < 0
          · rw [if_pos c169] at H; exact absurd H (by simp)
          rw [if_neg c169] at H
          have c169b0 : decide (t271 < 0) = false := decide_eq_false c169
          clear c169
          by_cases c170 : t271 = t252
          case neg => rw [if_neg c170] at H; exact absurd H (by simp)
          rw [if_pos c170] at H
          have c170b0 : (t271 == t252) = true := beq_iff_eq.mpr c170
          have c170b1 : (t271 != t252) = false := bne_eq_false_iff_eq.mpr c170
          clear c170
          obtain rfl := Option.some.inj H
          have hnb171 := NB241_208.out
          have hnc171 := NB208_241.out
          have hnb172 := NB241_209.out
          have hnc172 := NB209_241.out
          have hnb173 := NB241_225.out
          have hnc173 := NB225_241.out
          have hnb174 := NB241_231.out
          have hnc174 := NB231_241.out
          have hnb175 := NB241_269.out
          have hnc175 := NB269_241.out
          have hcz176_0 : wc.cell? ⟨gb241, 0, none⟩ = some (.int .i64 t235) := (blk_cell BK241.out 0).trans rfl
          have hcz176_1 : wc.cell? ⟨gb241, 1, none⟩ = some (.int .i64 t236) := (blk_cell BK241.out 1).trans rfl
          have hcz176_2 : wc.cell? ⟨gb241, 2, none⟩ = some (.slice Ao50 t253.length co50) := (blk_cell BK241.out 2).trans rfl
          have hfz176_0 := blk_frozen BK241.out 0
          have hfz176_1 := blk_frozen BK241.out 1
          have hfz176_2 := blk_frozen BK241.out 2
          go_wp2_with (first | ((with_reducible refine gate_callee (f := 14) rfl ?_); refine goesL_ (some 98) rfl rfl Try.func14 (by kernel_rfl) rfl #[.agg #[.int .i64 t235, .int .i64 t236, .slice Ao50 t253.length co50], .int .i64 1] rfl (by (try simp only [List.map_toArray, List.map_cons, List.map_nil]); first | done | rfl | (simp only [List.length_drop, List.length_take]; rfl)) ?_; (with_reducible refine (laws_heldPuzzle.calls kj120 t235 t236 _ _ t253 1 t271 _ ?side1 ?side2 A168.out).mono ?_); (case side1 => repeat (first | exact (Kd.R_reads' HO_242002.out).2.2 | (with_reducible refine Kd.C_alloc ?_ _) | (with_reducible refine Kd.C_drewN ?_ _) | (with_reducible refine Kd.C_drew ?_))); (case side2 => exact (Kd.R_reads' HO_242002.out).2.1); rintro e w177 ⟨rfl, hb⟩; refine ⟨_, rfl, ?_⟩; replace HO_226002 := As_ (Kd.R_below (by (with_reducible repeat (first | apply Kd.R_alloc | apply Kd.R_drewN | apply Kd.R_drew)); exact HO_226002.out) hb); replace HO_232002 := As_ (Kd.R_below (by (with_reducible repeat (first | apply Kd.R_alloc | apply Kd.R_drewN | apply Kd.R_drew)); exact HO_232002.out) hb); replace HO_242002 := As_ (Kd.R_below (by (with_reducible repeat (first | apply Kd.R_alloc | apply Kd.R_drewN | apply Kd.R_drew)); exact HO_242002.out) hb); replace HO_270002 := As_ (Kd.R_below (by (with_reducible repeat (first | apply Kd.R_alloc | apply Kd.R_drewN | apply Kd.R_drew)); exact HO_270002.out) hb); replace BK208 := As_ (blk_b hb BK208.out); replace BK209 := As_ (blk_b hb BK209.out); replace BK225 := As_ (blk_b hb BK225.out); replace BK231 := As_ (blk_b hb BK231.out); replace BK241 := As_ (blk_b hb BK241.out); replace BK269 := As_ (blk_b hb BK269.out); replace HB := As_ (below_step (by repeat (first | (with_reducible first | exact HB.out | apply below_alloc | apply pw_below_drewN | apply below_drew1 | refine below_setA ?_ (by assumption)) | exact HB.out)) hb); (try clear hb)))
          go_ret
          exact ⟨by first | rfl | (simp [errW_none, errW_some] <;> rfl) | (simp [*, errW_none, errW_some] <;> rfl), by repeat (first | (with_reducible first | exact HB.out | apply below_alloc | apply pw_below_drewN | apply below_drew1 | refine below_setA ?_ (by assumption)) | exact HB.out)⟩
end Go.Proofs.Ytmmdnenmkaimoaa.PFnExactAddClue
