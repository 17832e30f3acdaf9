-- Written by a program of this session (wip/tools/pg.py) out of the translation.
import Derived.Test.YtmmdnenmkaimoaaPFnExactDropCluex0
import Derived.Test.YtmmdnenmkaimoaaPFnExactDropCluex1
import Derived.Test.YtmmdnenmkaimoaaPFnExactDropCluex2
import Derived.Test.YtmmdnenmkaimoaaPFnExactDropCluex3
import Derived.Test.YtmmdnenmkaimoaaPFnExactDropCluex8
namespace Go.Proofs.Ytmmdnenmkaimoaa.PFnExactDropClue
open Go.RowKit Go.Proofs.YtmmdnenmkaimoaaW.PrintWords Go.Proofs.YtmmdnenmkaimoaaW.PrintLast Go.Proofs.YtmmdnenmkaimoaaW.PrintMore Go.Proofs.YtmmdnenmkaimoaaH
attribute [local go_sem] max2_int min2_int max_two min_two max_three min_three max_four min_four   -- for this text's walks alone
set_option linter.unusedVariables false
set_option linter.unusedSimpArgs false

/-! ### laws_FnExactDropClue: function 4 -/
mutual
def laws_FnExactDropClue.j0 : Nat → Int → Bool → Bool → Bool → Int → Int → List (S26) → Int → Int → List (S34) → Int → Int → List (S34) → Int → Int → List (S34) → Option (Bool)
  | 0, _, _, _, _, _, _, _, _, _, _, _, _, _, _, _, _ => none
  | k + 1, x1, x7, x10, x44, x209000, x209001, x209002, x222000, x222001, x222002, x228000, x228001, x228002, x235000, x235001, x235002 => if x44 = true then (none) else ((laws_toPuzzle.f k x209000 x209001 x209002).bind fun bt236 => ((laws_eqPuzzle.f k x228000 x228001 x228002 bt236.1 bt236.2.1 bt236.2.2).bind fun t241 => (if t241 = true then ((laws_markPuzzle.f k x228000 x228001 x228002 1).bind fun bt242 => (if bt242.1 < 0 then (laws_FnExactDropClue.j1 k x1 x7 true x209000 x209001 x209002 x222000 x222001 x222002 x235000 x235001 x235002) else ((laws_eqPuzzle.f k x235000 x235001 x235002 x222000 x222001 x222002).bind fun t244 => (if t244 = true then (laws_FnExactDropClue.j1 k x1 x7 (x10 != x7) x209000 x209001 x209002 x222000 x222001 x222002 x235000 x235001 x235002) else (laws_FnExactDropClue.j1 k x1 x7 true x209000 x209001 x209002 x222000 x222001 x222002 x235000 x235001 x235002))))) else (none))))
def laws_FnExactDropClue.j1 : Nat → Int → Bool → Bool → Int → Int → List (S26) → Int → Int → List (S34) → Int → Int → List (S34) → Option (Bool)
  | 0, _, _, _, _, _, _, _, _, _, _, _, _ => none
  | k + 1, x1, x7, x65, x209000, x209001, x209002, x222000, x222001, x222002, x235000, x235001, x235002 => if x65 = true then (none) else ((laws_markPuzzle.f k x235000 x235001 x235002 1).bind fun bt245 => ((laws_heldPuzzle.f k x235000 x235001 bt245.2 1).bind fun t247 => (if t247 < 0 then (none) else (if t247 = bt245.1 then ((laws_toPuzzle.f k x209000 x209001 x209002).bind fun bt248 => ((impl_DropClue.f bt248.1 bt248.2.1 bt248.2.2 x1).bind fun bt253 => ((laws_eqPuzzle.f k bt253.1 bt253.2.1 bt253.2.2.1 x222000 x222001 x222002).bind fun t260 => (if t260 = true then (laws_FnExactDropClue.j2 k bt245.1 (bt253.2.2.2 != x7) x235000 x235001 bt245.2) else (laws_FnExactDropClue.j2 k bt245.1 true x235000 x235001 bt245.2))))) else (none)))))
def laws_FnExactDropClue.j2 : Nat → Int → Bool → Int → Int → List (S34) → Option (Bool)
  | 0, _, _, _, _, _ => none
  | k + 1, x12, x92, x235000, x235001, x235002 => if x92 = true then (none) else ((laws_heldPuzzle.f k x235000 x235001 x235002 1).bind fun t261 => (if t261 < 0 then (none) else (if t261 = x12 then (some true) else (none))))
end
def laws_FnExactDropClue.f (k : Nat) (a0_0 : Int) (a0_1 : Int) (l0_2 : List (S26)) (a1 : Int) : Option (Bool) := (laws_szPuzzle.f a0_0 a0_1 l0_2 1048576).bind fun t209 => (if t209 < 0 then (some true) else ((laws_toPuzzle.f k a0_0 a0_1 l0_2).bind fun bt210 => ((spec_DropClue.f k bt210.1 bt210.2.1 bt210.2.2 a1).bind fun bt215 => ((laws_toPuzzle.f k a0_0 a0_1 l0_2).bind fun bt222 => ((impl_DropClue.f bt222.1 bt222.2.1 bt222.2.2 a1).bind fun bt228 => ((laws_eqPuzzle.f k bt228.1 bt228.2.1 bt228.2.2.1 bt215.1 bt215.2.1 bt215.2.2.1).bind fun t235 => (if t235 = true then (laws_FnExactDropClue.j0 k a1 bt215.2.2.2 bt228.2.2.2 (bt228.2.2.2 != bt215.2.2.2) a0_0 a0_1 l0_2 bt215.1 bt215.2.1 bt215.2.2.1 bt222.1 bt222.2.1 bt222.2.2 bt228.1 bt228.2.1 bt228.2.2.1) else (laws_FnExactDropClue.j0 k a1 bt215.2.2.2 bt228.2.2.2 true a0_0 a0_1 l0_2 bt215.1 bt215.2.1 bt215.2.2.1 bt222.1 bt222.2.1 bt222.2.2 bt228.1 bt228.2.1 bt228.2.2.1))))))))
theorem laws_FnExactDropClue.mono_l : ∀ k, (∀ y0 y1 y2 y3 y4 y5 y6 y7 y8 y9 y10 y11 y12 y13 y14 y15, LeO (laws_FnExactDropClue.j0 k y0 y1 y2 y3 y4 y5 y6 y7 y8 y9 y10 y11 y12 y13 y14 y15) (laws_FnExactDropClue.j0 (k + 1) y0 y1 y2 y3 y4 y5 y6 y7 y8 y9 y10 y11 y12 y13 y14 y15)) ∧ (∀ y0 y1 y2 y3 y4 y5 y6 y7 y8 y9 y10 y11, LeO (laws_FnExactDropClue.j1 k y0 y1 y2 y3 y4 y5 y6 y7 y8 y9 y10 y11) (laws_FnExactDropClue.j1 (k + 1) y0 y1 y2 y3 y4 y5 y6 y7 y8 y9 y10 y11)) ∧ (∀ y0 y1 y2 y3 y4, LeO (laws_FnExactDropClue.j2 k y0 y1 y2 y3 y4) (laws_FnExactDropClue.j2 (k + 1) y0 y1 y2 y3 y4))
  | 0 => ⟨fun _ _ _ _ _ _ _ _ _ _ _ _ _ _ _ _ r h => by simp [laws_FnExactDropClue.j0] at h, fun _ _ _ _ _ _ _ _ _ _ _ _ r h => by simp [laws_FnExactDropClue.j1] at h, fun _ _ _ _ _ r h => by simp [laws_FnExactDropClue.j2] at h⟩
  | k + 1 => by
    obtain ⟨ih0, ih1, ih2⟩ := laws_FnExactDropClue.mono_l k
    refine ⟨?_, ?_, ?_⟩
    · intro y0 y1 y2 y3 y4 y5 y6 y7 y8 y9 y10 y11 y12 y13 y14 y15
      unfold laws_FnExactDropClue.j0
      repeat' first
      | (with_reducible exact ih0 _ _ _ _ _ _ _ _ _ _ _ _ _ _ _ _)
      | (with_reducible exact ih1 _ _ _ _ _ _ _ _ _ _ _ _)
      | (with_reducible exact ih2 _ _ _ _ _)
      | (with_reducible exact laws_eqPuzzle.mono _ _ _ _ _ _ _)
      | (with_reducible exact laws_heldPuzzle.mono _ _ _ _ _)
      | (with_reducible exact laws_markPuzzle.mono _ _ _ _ _)
      | (with_reducible exact laws_toPuzzle.mono _ _ _ _)
      | (with_reducible exact spec_DropClue.mono _ _ _ _ _)
      | (with_reducible exact LeO.refl _)
      | (with_reducible exact LeO.none _)
      | (with_reducible refine LeO.ite ?_ ?_)
      | (with_reducible refine LeO.bind ?_ (fun _ => ?_))
      | exact ih0 _ _ _ _ _ _ _ _ _ _ _ _ _ _ _ _
      | exact ih1 _ _ _ _ _ _ _ _ _ _ _ _
      | exact ih2 _ _ _ _ _
      | exact laws_eqPuzzle.mono _ _ _ _ _ _ _
      | exact laws_heldPuzzle.mono _ _ _ _ _
      | exact laws_markPuzzle.mono _ _ _ _ _
      | exact laws_toPuzzle.mono _ _ _ _
      | exact spec_DropClue.mono _ _ _ _ _
      | exact LeO.none _
      | refine LeO.ite ?_ ?_
      | refine LeO.bind ?_ (fun _ => ?_)
    · intro y0 y1 y2 y3 y4 y5 y6 y7 y8 y9 y10 y11
      unfold laws_FnExactDropClue.j1
      repeat' first
      | (with_reducible exact ih0 _ _ _ _ _ _ _ _ _ _ _ _ _ _ _ _)
      | (with_reducible exact ih1 _ _ _ _ _ _ _ _ _ _ _ _)
      | (with_reducible exact ih2 _ _ _ _ _)
      | (with_reducible exact laws_eqPuzzle.mono _ _ _ _ _ _ _)
      | (with_reducible exact laws_heldPuzzle.mono _ _ _ _ _)
      | (with_reducible exact laws_markPuzzle.mono _ _ _ _ _)
      | (with_reducible exact laws_toPuzzle.mono _ _ _ _)
      | (with_reducible exact spec_DropClue.mono _ _ _ _ _)
      | (with_reducible exact LeO.refl _)
      | (with_reducible exact LeO.none _)
      | (with_reducible refine LeO.ite ?_ ?_)
      | (with_reducible refine LeO.bind ?_ (fun _ => ?_))
      | exact ih0 _ _ _ _ _ _ _ _ _ _ _ _ _ _ _ _
      | exact ih1 _ _ _ _ _ _ _ _ _ _ _ _
      | exact ih2 _ _ _ _ _
      | exact laws_eqPuzzle.mono _ _ _ _ _ _ _
      | exact laws_heldPuzzle.mono _ _ _ _ _
      | exact laws_markPuzzle.mono _ _ _ _ _
      | exact laws_toPuzzle.mono _ _ _ _
      | exact spec_DropClue.mono _ _ _ _ _
      | exact LeO.none _
      | refine LeO.ite ?_ ?_
      | refine LeO.bind ?_ (fun _ => ?_)
    · intro y0 y1 y2 y3 y4
      unfold laws_FnExactDropClue.j2
      repeat' first
      | (with_reducible exact ih0 _ _ _ _ _ _ _ _ _ _ _ _ _ _ _ _)
      | (with_reducible exact ih1 _ _ _ _ _ _ _ _ _ _ _ _)
      | (with_reducible exact ih2 _ _ _ _ _)
      | (with_reducible exact laws_eqPuzzle.mono _ _ _ _ _ _ _)
      | (with_reducible exact laws_heldPuzzle.mono _ _ _ _ _)
      | (with_reducible exact laws_markPuzzle.mono _ _ _ _ _)
      | (with_reducible exact laws_toPuzzle.mono _ _ _ _)
      | (with_reducible exact spec_DropClue.mono _ _ _ _ _)
      | (with_reducible exact LeO.refl _)
      | (with_reducible exact LeO.none _)
      | (with_reducible refine LeO.ite ?_ ?_)
      | (with_reducible refine LeO.bind ?_ (fun _ => ?_))
      | exact ih0 _ _ _ _ _ _ _ _ _ _ _ _ _ _ _ _
      | exact ih1 _ _ _ _ _ _ _ _ _ _ _ _
      | exact ih2 _ _ _ _ _
      | exact laws_eqPuzzle.mono _ _ _ _ _ _ _
      | exact laws_heldPuzzle.mono _ _ _ _ _
      | exact laws_markPuzzle.mono _ _ _ _ _
      | exact laws_toPuzzle.mono _ _ _ _
      | exact spec_DropClue.mono _ _ _ _ _
      | exact LeO.none _
      | refine LeO.ite ?_ ?_
      | refine LeO.bind ?_ (fun _ => ?_)
theorem laws_FnExactDropClue.mono : ∀ a0 a1 a2 a3 k, LeO (laws_FnExactDropClue.f k a0 a1 a2 a3) (laws_FnExactDropClue.f (k + 1) a0 a1 a2 a3) := by
  intro a0 a1 a2 a3 k
  obtain ⟨ih0, ih1, ih2⟩ := laws_FnExactDropClue.mono_l k
  unfold laws_FnExactDropClue.f
  repeat' first
      | (with_reducible exact ih0 _ _ _ _ _ _ _ _ _ _ _ _ _ _ _ _)
      | (with_reducible exact ih1 _ _ _ _ _ _ _ _ _ _ _ _)
      | (with_reducible exact ih2 _ _ _ _ _)
      | (with_reducible exact laws_eqPuzzle.mono _ _ _ _ _ _ _)
      | (with_reducible exact laws_heldPuzzle.mono _ _ _ _ _)
      | (with_reducible exact laws_markPuzzle.mono _ _ _ _ _)
      | (with_reducible exact laws_toPuzzle.mono _ _ _ _)
      | (with_reducible exact spec_DropClue.mono _ _ _ _ _)
      | (with_reducible exact LeO.refl _)
      | (with_reducible exact LeO.none _)
      | (with_reducible refine LeO.ite ?_ ?_)
      | (with_reducible refine LeO.bind ?_ (fun _ => ?_))
      | exact ih0 _ _ _ _ _ _ _ _ _ _ _ _ _ _ _ _
      | exact ih1 _ _ _ _ _ _ _ _ _ _ _ _
      | exact ih2 _ _ _ _ _
      | exact laws_eqPuzzle.mono _ _ _ _ _ _ _
      | exact laws_heldPuzzle.mono _ _ _ _ _
      | exact laws_markPuzzle.mono _ _ _ _ _
      | exact laws_toPuzzle.mono _ _ _ _
      | exact spec_DropClue.mono _ _ _ _ _
      | exact LeO.none _
      | refine LeO.ite ?_ ?_
      | refine LeO.bind ?_ (fun _ => ?_)
set_option maxHeartbeats 8000000 in
set_option maxRecDepth 100000 in
theorem laws_FnExactDropClue.calls (k : Nat) (a0_0 : Int) (a0_1 : Int) (A0_2 : Option Addr) (c0_2 : Nat) (l0_2 : List (S26)) (a1 : Int) (r : Bool) (w : World) (hr0_2 : Kd.C k26 w A0_2 l0_2.length l0_2) (hc0_2 : l0_2.length ≤ c0_2) (h : laws_FnExactDropClue.f k a0_0 a0_1 l0_2 a1 = some r) :
    Calls Try.prog 4 #[.agg #[.int .i64 a0_0, .int .i64 a0_1, .slice A0_2 l0_2.length c0_2], .int .i64 a1] w fun e w' => e = .returned (.bool r) ∧ Below w.heap.size w w' := by
  have hu24 := Try.underlying24
  have hu30 := Try.underlying30
  have HR0_2 := As_ hr0_2
  have HC0_2 := As_ hc0_2
  clear hr0_2 hc0_2
  have HB := As_ (Below.refl w.heap.size w)
  have H : ((laws_szPuzzle.f a0_0 a0_1 l0_2 1048576).bind fun t209 => (if t209 < 0 then (some true) else ((laws_toPuzzle.f k a0_0 a0_1 l0_2).bind fun bt210 => ((spec_DropClue.f k bt210.1 bt210.2.1 bt210.2.2 a1).bind fun bt215 => ((laws_toPuzzle.f k a0_0 a0_1 l0_2).bind fun bt222 => ((impl_DropClue.f bt222.1 bt222.2.1 bt222.2.2 a1).bind fun bt228 => ((laws_eqPuzzle.f k bt228.1 bt228.2.1 bt228.2.2.1 bt215.1 bt215.2.1 bt215.2.2.1).bind fun t235 => (if t235 = true then (laws_FnExactDropClue.j0 k a1 bt215.2.2.2 bt228.2.2.2 (bt228.2.2.2 != bt215.2.2.2) a0_0 a0_1 l0_2 bt215.1 bt215.2.1 bt215.2.2.1 bt222.1 bt222.2.1 bt222.2.2 bt228.1 bt228.2.1 bt228.2.2.1) else (laws_FnExactDropClue.j0 k a1 bt215.2.2.2 bt228.2.2.2 true a0_0 a0_1 l0_2 bt215.1 bt215.2.1 bt215.2.2.1 bt222.1 bt222.2.1 bt222.2.2 bt228.1 bt228.2.1 bt228.2.2.1))))))))) = some r := h
  clear h
  replace H := Option.bind_eq_some_iff.mp H
  obtain ⟨t209, A30, H⟩ := H
  try dsimp only at H
  have A3 := As_ A30
  clear A30
  by_cases c4 : t209 < 0
  · rw [if_pos c4] at H
    have c4b0 : decide (t209 < 0) = true := decide_eq_true c4
    clear c4
    obtain rfl := Option.some.inj H
    go_enter Try.func4, Try.ntmps4
    go_wp2_with (first | ((with_reducible refine gate_dst (N := 2) rfl ?_); refine box_event ?hg (N := 2) ?hd (cs := #[.int .i64 a0_0, .int .i64 a0_1, .slice A0_2 l0_2.length c0_2]) (t := 24) ?hr ?_; (case hd => rfl); (case hg => rfl); (case hr => first | (go_simp; done) | (go_simp; rfl)); intro gb208 hg w5 hbox hb; have BK208 := As_ (hbox); have GW208 := As_ ((by rw [hg]; exact (below_size (by repeat (first | (with_reducible first | exact HB.out | apply below_alloc | apply pw_below_drewN | apply below_drew1) | exact HB.out))) : w.heap.size ≤ gb208)); have GE208 := As_ ((by rw [hg]; exact (below_size (by repeat (first | (with_reducible first | exact HB.out | apply below_alloc | apply pw_below_drewN | apply below_drew1) | exact HB.out))) : w.heap.size ≤ gb208)); replace HB := As_ (below_step (by repeat (first | (with_reducible first | exact HB.out | apply below_alloc | apply pw_below_drewN | apply below_drew1) | exact HB.out)) hb); clear hb hbox hg; have hcz6_0 : w5.cell? ⟨gb208, 0, none⟩ = some (.int .i64 a0_0) := (blk_cell BK208.out 0).trans rfl; have hcz6_1 : w5.cell? ⟨gb208, 1, none⟩ = some (.int .i64 a0_1) := (blk_cell BK208.out 1).trans rfl; have hcz6_2 : w5.cell? ⟨gb208, 2, none⟩ = some (.slice A0_2 l0_2.length c0_2) := (blk_cell BK208.out 2).trans rfl; have hfz6_0 := blk_frozen BK208.out 0; have hfz6_1 := blk_frozen BK208.out 1; have hfz6_2 := blk_frozen BK208.out 2) | ((with_reducible refine gate_callee (f := 7) rfl ?_); refine goesL_ (some 18) rfl rfl Try.func7 (by kernel_rfl) rfl #[.agg #[.int .i64 a0_0, .int .i64 a0_1, .slice A0_2 l0_2.length c0_2], .int .i64 1048576] rfl (by (try simp only [List.map_toArray, List.map_cons, List.map_nil]); first | done | rfl | (simp only [List.length_drop, List.length_take]; rfl)) ?_; (with_reducible refine (laws_szPuzzle.calls a0_0 a0_1 _ _ l0_2 1048576 t209 _ ?side1 ?side2 A3.out).mono ?_); (case side1 => repeat (first | exact (Kd.C_below HR0_2.out HB.out) | (with_reducible refine Kd.C_alloc ?_ _) | (with_reducible refine Kd.C_drewN ?_ _) | (with_reducible refine Kd.C_drew ?_))); (case side2 => exact HC0_2.out); rintro e w7 ⟨rfl, hb⟩; refine ⟨_, rfl, ?_⟩; replace BK208 := As_ (blk_b hb BK208.out); replace HB := As_ (below_step (by repeat (first | (with_reducible first | exact HB.out | apply below_alloc | apply pw_below_drewN | apply below_drew1 | refine below_set ?_ GE208.out) | exact HB.out)) hb); (try clear hb)))
    go_ret
    exact ⟨by first | rfl | (simp [errW_none, errW_some] <;> rfl) | (simp [*, errW_none, errW_some] <;> rfl), by repeat (first | (with_reducible first | exact HB.out | apply below_alloc | apply pw_below_drewN | apply below_drew1 | refine below_set ?_ GE208.out) | exact HB.out)⟩
  · rw [if_neg c4] at H
    have c4b0 : decide (t209 < 0) = false := decide_eq_false c4
    clear c4
    replace H := Option.bind_eq_some_iff.mp H
    obtain ⟨⟨t210, t211, t212⟩, A80, H⟩ := H
    try dsimp only at H
    have A8 := As_ A80
    clear A80
    replace H := Option.bind_eq_some_iff.mp H
    obtain ⟨⟨t215, t216, t217, t220⟩, A90, H⟩ := H
    try dsimp only at H
    have A9 := As_ A90
    clear A90
    replace H := Option.bind_eq_some_iff.mp H
    obtain ⟨⟨t222, t223, t224⟩, A100, H⟩ := H
    try dsimp only at H
    have A10 := As_ A100
    clear A100
    replace H := Option.bind_eq_some_iff.mp H
    obtain ⟨⟨t228, t229, t230, t233⟩, A110, H⟩ := H
    try dsimp only at H
    have A11 := As_ A110
    clear A110
    have HC12 := As_ H
    clear H
    go_enter Try.func4, Try.ntmps4
    go_upto_region 8 with (first | ((with_reducible refine gate_dst (N := 2) rfl ?_); refine box_event ?hg (N := 2) ?hd (cs := #[.int .i64 a0_0, .int .i64 a0_1, .slice A0_2 l0_2.length c0_2]) (t := 24) ?hr ?_; (case hd => rfl); (case hg => rfl); (case hr => first | (go_simp; done) | (go_simp; rfl)); intro gb208 hg w13 hbox hb; have BK208 := As_ (hbox); have GW208 := As_ ((by rw [hg]; exact (below_size (by repeat (first | (with_reducible first | exact HB.out | apply below_alloc | apply pw_below_drewN | apply below_drew1) | exact HB.out))) : w.heap.size ≤ gb208)); have GE208 := As_ ((by rw [hg]; exact (below_size (by repeat (first | (with_reducible first | exact HB.out | apply below_alloc | apply pw_below_drewN | apply below_drew1) | exact HB.out))) : w.heap.size ≤ gb208)); replace HB := As_ (below_step (by repeat (first | (with_reducible first | exact HB.out | apply below_alloc | apply pw_below_drewN | apply below_drew1) | exact HB.out)) hb); clear hb hbox hg; have hcz14_0 : w13.cell? ⟨gb208, 0, none⟩ = some (.int .i64 a0_0) := (blk_cell BK208.out 0).trans rfl; have hcz14_1 : w13.cell? ⟨gb208, 1, none⟩ = some (.int .i64 a0_1) := (blk_cell BK208.out 1).trans rfl; have hcz14_2 : w13.cell? ⟨gb208, 2, none⟩ = some (.slice A0_2 l0_2.length c0_2) := (blk_cell BK208.out 2).trans rfl; have hfz14_0 := blk_frozen BK208.out 0; have hfz14_1 := blk_frozen BK208.out 1; have hfz14_2 := blk_frozen BK208.out 2) | ((with_reducible refine gate_callee (f := 7) rfl ?_); refine goesL_ (some 18) rfl rfl Try.func7 (by kernel_rfl) rfl #[.agg #[.int .i64 a0_0, .int .i64 a0_1, .slice A0_2 l0_2.length c0_2], .int .i64 1048576] rfl (by (try simp only [List.map_toArray, List.map_cons, List.map_nil]); first | done | rfl | (simp only [List.length_drop, List.length_take]; rfl)) ?_; (with_reducible refine (laws_szPuzzle.calls a0_0 a0_1 _ _ l0_2 1048576 t209 _ ?side1 ?side2 A3.out).mono ?_); (case side1 => repeat (first | exact (Kd.C_below HR0_2.out HB.out) | (with_reducible refine Kd.C_alloc ?_ _) | (with_reducible refine Kd.C_drewN ?_ _) | (with_reducible refine Kd.C_drew ?_))); (case side2 => exact HC0_2.out); rintro e w15 ⟨rfl, hb⟩; refine ⟨_, rfl, ?_⟩; replace BK208 := As_ (blk_b hb BK208.out); replace HB := As_ (below_step (by repeat (first | (with_reducible first | exact HB.out | apply below_alloc | apply pw_below_drewN | apply below_drew1 | refine below_set ?_ GE208.out) | exact HB.out)) hb); (try clear hb); have hcz16_0 : w15.cell? ⟨gb208, 0, none⟩ = some (.int .i64 a0_0) := (blk_cell BK208.out 0).trans rfl; have hcz16_1 : w15.cell? ⟨gb208, 1, none⟩ = some (.int .i64 a0_1) := (blk_cell BK208.out 1).trans rfl; have hcz16_2 : w15.cell? ⟨gb208, 2, none⟩ = some (.slice A0_2 l0_2.length c0_2) := (blk_cell BK208.out 2).trans rfl; have hfz16_0 := blk_frozen BK208.out 0; have hfz16_1 := blk_frozen BK208.out 1; have hfz16_2 := blk_frozen BK208.out 2) | ((with_reducible refine gate_callee (f := 9) rfl ?_); refine goesL_ (some 23) rfl rfl Try.func9 (by kernel_rfl) rfl #[.agg #[.int .i64 a0_0, .int .i64 a0_1, .slice A0_2 l0_2.length c0_2]] rfl (by (try simp only [List.map_toArray, List.map_cons, List.map_nil]); first | done | rfl | (simp only [List.length_drop, List.length_take]; rfl)) ?_; (with_reducible refine (laws_toPuzzle.calls k a0_0 a0_1 _ _ l0_2 t210 t211 t212 _ ?side1 ?side2 A8.out).mono ?_); (case side1 => repeat (first | exact (Kd.C_below HR0_2.out HB.out) | (with_reducible refine Kd.C_alloc ?_ _) | (with_reducible refine Kd.C_drewN ?_ _) | (with_reducible refine Kd.C_drew ?_))); (case side2 => exact HC0_2.out); rintro e w17 ⟨v213, rfl, ho0, hb⟩; refine ⟨_, rfl, ?_⟩; have HO214 := As_ (Kd.R_lower ho0 (below_size (by repeat (first | (with_reducible first | exact HB.out | apply below_alloc | apply pw_below_drewN | apply below_drew1 | refine below_set ?_ GE208.out) | exact HB.out)))); replace BK208 := As_ (blk_b hb BK208.out); replace HB := As_ (below_step (by repeat (first | (with_reducible first | exact HB.out | apply below_alloc | apply pw_below_drewN | apply below_drew1 | refine below_set ?_ GE208.out) | exact HB.out)) hb); (try clear hb); (try clear ho0); obtain ⟨Ao18, co18, eo18⟩ := Kd.R_slice HO214.out; subst eo18) | ((with_reducible refine gate_callee (f := 15) rfl ?_); refine goesL_ (some 25) rfl rfl Try.func15 (by kernel_rfl) rfl #[.agg #[.int .i64 t210, .int .i64 t211, .slice Ao18 t212.length co18], .int .i64 a1] rfl (by (try simp only [List.map_toArray, List.map_cons, List.map_nil]); first | done | rfl | (simp only [List.length_drop, List.length_take]; rfl)) ?_; (with_reducible refine (spec_DropClue.calls k t210 t211 _ _ t212 a1 t215 t216 t217 t220 _ ?side1 ?side2 A9.out).mono ?_); (case side1 => repeat (first | exact (Kd.R_reads' HO214.out).2.2 | (with_reducible refine Kd.C_alloc ?_ _) | (with_reducible refine Kd.C_drewN ?_ _) | (with_reducible refine Kd.C_drew ?_))); (case side2 => exact (Kd.R_reads' HO214.out).2.1); rintro e w19 ⟨v218, rfl, ho0, hb⟩; refine ⟨_, rfl, ?_⟩; have HO219 := As_ (Kd.R_lower (Kd.R_new' ho0 (Kd.R_lt (by (with_reducible repeat (first | apply Kd.R_alloc | apply Kd.R_drewN | apply Kd.R_drew)); exact HO214.out))) (below_size (by repeat (first | (with_reducible first | exact HB.out | apply below_alloc | apply pw_below_drewN | apply below_drew1 | refine below_set ?_ GE208.out) | exact HB.out)))); replace HO214 := As_ (Kd.R_elder' (by (with_reducible repeat (first | apply Kd.R_alloc | apply Kd.R_drewN | apply Kd.R_drew)); exact HO214.out) (Kd.R_base ho0) hb); replace BK208 := As_ (blk_b hb BK208.out); replace HB := As_ (below_step (by repeat (first | (with_reducible first | exact HB.out | apply below_alloc | apply pw_below_drewN | apply below_drew1 | refine below_set ?_ GE208.out) | exact HB.out)) hb); (try clear hb); (try clear ho0)) | ((with_reducible refine gate_dst (N := 6) rfl ?_); refine box_event ?hg (N := 6) ?hd (cs := #[.int .i64 0, .int .i64 0, .slice none 0 0]) (t := 30) ?hr ?_; (case hd => rfl); (case hg => rfl); (case hr => first | (go_simp; done) | (go_simp; rfl)); intro gb221 hg w20 hbox hb; have BK221 := As_ (hbox); have GW221 := As_ ((by rw [hg]; exact (below_size (by repeat (first | (with_reducible first | exact HB.out | apply below_alloc | apply pw_below_drewN | apply below_drew1 | refine below_set ?_ GE208.out) | exact HB.out))) : w.heap.size ≤ gb221)); have GE221 := As_ ((by rw [hg]; exact (below_size (by repeat (first | (with_reducible first | exact HB.out | apply below_alloc | apply pw_below_drewN | apply below_drew1 | refine below_set ?_ GE208.out) | exact HB.out))) : w.heap.size ≤ gb221)); have NB208_221 := As_ (ne_lt hg BK208.out); have NB221_208 := As_ (ne_gt hg BK208.out); replace HO214 := As_ (Kd.R_below (by (with_reducible repeat (first | apply Kd.R_alloc | apply Kd.R_drewN | apply Kd.R_drew)); exact HO214.out) hb); replace HO219 := As_ (Kd.R_below (by (with_reducible repeat (first | apply Kd.R_alloc | apply Kd.R_drewN | apply Kd.R_drew)); exact HO219.out) hb); replace BK208 := As_ (blk_b hb BK208.out); replace HB := As_ (below_step (by repeat (first | (with_reducible first | exact HB.out | apply below_alloc | apply pw_below_drewN | apply below_drew1 | refine below_set ?_ GE208.out) | exact HB.out)) hb); clear hb hbox hg; have hnb21 := NB221_208.out; have hnc21 := NB208_221.out; have hcz22_0 : w20.cell? ⟨gb221, 0, none⟩ = some (.int .i64 0) := (blk_cell BK221.out 0).trans rfl; have hcz22_1 : w20.cell? ⟨gb221, 1, none⟩ = some (.int .i64 0) := (blk_cell BK221.out 1).trans rfl; have hcz22_2 : w20.cell? ⟨gb221, 2, none⟩ = some (.slice none 0 0) := (blk_cell BK221.out 2).trans rfl; have hfz22_0 := blk_frozen BK221.out 0; have hfz22_1 := blk_frozen BK221.out 1; have hfz22_2 := blk_frozen BK221.out 2; obtain ⟨Ao23, co23, eo23⟩ := Kd.R_slice HO219.out; subst eo23; have hcz24_0 : w20.cell? ⟨gb208, 0, none⟩ = some (.int .i64 a0_0) := (blk_cell BK208.out 0).trans rfl; have hcz24_1 : w20.cell? ⟨gb208, 1, none⟩ = some (.int .i64 a0_1) := (blk_cell BK208.out 1).trans rfl; have hcz24_2 : w20.cell? ⟨gb208, 2, none⟩ = some (.slice A0_2 l0_2.length c0_2) := (blk_cell BK208.out 2).trans rfl; have hfz24_0 := blk_frozen BK208.out 0; have hfz24_1 := blk_frozen BK208.out 1; have hfz24_2 := blk_frozen BK208.out 2) | ((with_reducible refine gate_callee (f := 9) rfl ?_); refine goesL_ (some 29) rfl rfl Try.func9 (by kernel_rfl) rfl #[.agg #[.int .i64 a0_0, .int .i64 a0_1, .slice A0_2 l0_2.length c0_2]] rfl (by (try simp only [List.map_toArray, List.map_cons, List.map_nil]); first | done | rfl | (simp only [List.length_drop, List.length_take]; rfl)) ?_; (with_reducible refine (laws_toPuzzle.calls k a0_0 a0_1 _ _ l0_2 t222 t223 t224 _ ?side1 ?side2 A10.out).mono ?_); (case side1 => exact Kd.C_below HR0_2.out (by repeat (first | (with_reducible first | exact HB.out | apply below_alloc | apply pw_below_drewN | apply below_drew1 | refine below_setA ?_ (by assumption)) | exact HB.out))); (case side2 => exact HC0_2.out); rintro e w25 ⟨v225, rfl, ho0, hb⟩; refine ⟨_, rfl, ?_⟩; have HO226 := As_ (Kd.R_lower (Kd.R_new' (Kd.R_new' ho0 (Kd.R_lt (by (with_reducible repeat (first | apply Kd.R_alloc | apply Kd.R_drewN | apply Kd.R_drew)); exact (Kd.R_mono (Kd.R_far (p := ⟨gb221, 2, none⟩) (Kd.R_far (p := ⟨gb221, 1, none⟩) (Kd.R_far (p := ⟨gb221, 0, none⟩) (Kd.R_types HO214.out BK221.out (by decide)) (fun _ hk => hk.2) (.int .i64 t215)) (fun _ hk => hk.2) (.int .i64 t216)) (fun _ hk => hk.2) (.slice Ao23 t217.length co23)) (fun _ h_ => h_.1))))) (Kd.R_lt (by (with_reducible repeat (first | apply Kd.R_alloc | apply Kd.R_drewN | apply Kd.R_drew)); exact (Kd.R_mono (Kd.R_far (p := ⟨gb221, 2, none⟩) (Kd.R_far (p := ⟨gb221, 1, none⟩) (Kd.R_far (p := ⟨gb221, 0, none⟩) (Kd.R_types HO219.out BK221.out (by decide)) (fun _ hk => hk.2) (.int .i64 t215)) (fun _ hk => hk.2) (.int .i64 t216)) (fun _ hk => hk.2) (.slice Ao23 t217.length co23)) (fun _ h_ => h_.1))))) (below_size (by repeat (first | (with_reducible first | exact HB.out | apply below_alloc | apply pw_below_drewN | apply below_drew1 | refine below_setA ?_ (by assumption)) | exact HB.out)))); replace HO214 := As_ (Kd.R_elder' (by (with_reducible repeat (first | apply Kd.R_alloc | apply Kd.R_drewN | apply Kd.R_drew)); exact (Kd.R_mono (Kd.R_far (p := ⟨gb221, 2, none⟩) (Kd.R_far (p := ⟨gb221, 1, none⟩) (Kd.R_far (p := ⟨gb221, 0, none⟩) (Kd.R_types HO214.out BK221.out (by decide)) (fun _ hk => hk.2) (.int .i64 t215)) (fun _ hk => hk.2) (.int .i64 t216)) (fun _ hk => hk.2) (.slice Ao23 t217.length co23)) (fun _ h_ => h_.1))) (Kd.R_base ho0) hb); replace HO219 := As_ (Kd.R_elder' (by (with_reducible repeat (first | apply Kd.R_alloc | apply Kd.R_drewN | apply Kd.R_drew)); exact (Kd.R_mono (Kd.R_far (p := ⟨gb221, 2, none⟩) (Kd.R_far (p := ⟨gb221, 1, none⟩) (Kd.R_far (p := ⟨gb221, 0, none⟩) (Kd.R_types HO219.out BK221.out (by decide)) (fun _ hk => hk.2) (.int .i64 t215)) (fun _ hk => hk.2) (.int .i64 t216)) (fun _ hk => hk.2) (.slice Ao23 t217.length co23)) (fun _ h_ => h_.1))) (Kd.R_base ho0) hb); replace BK208 := As_ (blk_below (g := gb208) (o := .cells #[.int .i64 a0_0, .int .i64 a0_1, .slice A0_2 l0_2.length c0_2] 24 (0, 0)) (by (with_reducible repeat (first | refine blk_drewN ?_ _ | refine blk_drew ?_ | refine blk_alloc ?_ _)); refine blk_far ?_ NB208_221.out _; refine blk_far ?_ NB208_221.out _; refine blk_far ?_ NB208_221.out _; (with_reducible repeat (first | refine blk_drewN ?_ _ | refine blk_drew ?_ | refine blk_alloc ?_ _)); exact BK208.out) hb); replace BK221 := As_ (blk_below (g := gb221) (o := .cells #[.int .i64 t215, .int .i64 t216, .slice Ao23 t217.length co23] 30 (0, 0)) (by (with_reducible repeat (first | refine blk_drewN ?_ _ | refine blk_drew ?_ | refine blk_alloc ?_ _)); refine blk_put (cs := #[.int .i64 t215, .int .i64 t216, .slice none 0 0]) ?_ 2 _ rfl; refine blk_put (cs := #[.int .i64 t215, .int .i64 0, .slice none 0 0]) ?_ 1 _ rfl; refine blk_put (cs := #[.int .i64 0, .int .i64 0, .slice none 0 0]) ?_ 0 _ rfl; (with_reducible repeat (first | refine blk_drewN ?_ _ | refine blk_drew ?_ | refine blk_alloc ?_ _)); exact BK221.out) hb); replace HB := As_ (below_step (by repeat (first | (with_reducible first | exact HB.out | apply below_alloc | apply pw_below_drewN | apply below_drew1 | refine below_setA ?_ (by assumption)) | exact HB.out)) hb); (try clear hb); (try clear ho0)) | ((with_reducible refine gate_dst (N := 8) rfl ?_); refine box_event ?hg (N := 8) ?hd (cs := #[.int .i64 0, .int .i64 0, .slice none 0 0]) (t := 30) ?hr ?_; (case hd => rfl); (case hg => rfl); (case hr => first | (go_simp; done) | (go_simp; rfl)); intro gb227 hg w26 hbox hb; have BK227 := As_ (hbox); have GW227 := As_ ((by rw [hg]; exact (below_size (by repeat (first | (with_reducible first | exact HB.out | apply below_alloc | apply pw_below_drewN | apply below_drew1 | refine below_setA ?_ (by assumption)) | exact HB.out))) : w.heap.size ≤ gb227)); have GE227 := As_ ((by rw [hg]; exact (below_size (by repeat (first | (with_reducible first | exact HB.out | apply below_alloc | apply pw_below_drewN | apply below_drew1 | refine below_setA ?_ (by assumption)) | exact HB.out))) : w.heap.size ≤ gb227)); have NB208_227 := As_ (ne_lt hg BK208.out); have NB227_208 := As_ (ne_gt hg BK208.out); have NB221_227 := As_ (ne_lt hg BK221.out); have NB227_221 := As_ (ne_gt hg BK221.out); replace HO214 := As_ (Kd.R_below (by (with_reducible repeat (first | apply Kd.R_alloc | apply Kd.R_drewN | apply Kd.R_drew)); exact HO214.out) hb); replace HO219 := As_ (Kd.R_below (by (with_reducible repeat (first | apply Kd.R_alloc | apply Kd.R_drewN | apply Kd.R_drew)); exact HO219.out) hb); replace HO226 := As_ (Kd.R_below (by (with_reducible repeat (first | apply Kd.R_alloc | apply Kd.R_drewN | apply Kd.R_drew)); exact HO226.out) hb); replace BK208 := As_ (blk_b hb BK208.out); replace BK221 := As_ (blk_b hb BK221.out); replace HB := As_ (below_step (by repeat (first | (with_reducible first | exact HB.out | apply below_alloc | apply pw_below_drewN | apply below_drew1 | refine below_setA ?_ (by assumption)) | exact HB.out)) hb); clear hb hbox hg; have hnb27 := NB227_208.out; have hnc27 := NB208_227.out; have hnb28 := NB227_221.out; have hnc28 := NB221_227.out; have hcz29_0 : w26.cell? ⟨gb227, 0, none⟩ = some (.int .i64 0) := (blk_cell BK227.out 0).trans rfl; have hcz29_1 : w26.cell? ⟨gb227, 1, none⟩ = some (.int .i64 0) := (blk_cell BK227.out 1).trans rfl; have hcz29_2 : w26.cell? ⟨gb227, 2, none⟩ = some (.slice none 0 0) := (blk_cell BK227.out 2).trans rfl; have hfz29_0 := blk_frozen BK227.out 0; have hfz29_1 := blk_frozen BK227.out 1; have hfz29_2 := blk_frozen BK227.out 2; obtain ⟨Ao30, co30, eo30⟩ := Kd.R_slice HO226.out; subst eo30) | ((with_reducible refine gate_callee (f := 16) rfl ?_); refine goesL_ (some 33) rfl rfl Try.func16 (by kernel_rfl) rfl #[.agg #[.int .i64 t222, .int .i64 t223, .slice Ao30 t224.length co30], .int .i64 a1] rfl (by (try simp only [List.map_toArray, List.map_cons, List.map_nil]); first | done | rfl | (simp only [List.length_drop, List.length_take]; rfl)) ?_; (with_reducible refine (impl_DropClue.calls t222 t223 _ _ t224 a1 t228 t229 t230 t233 _ ?side1 ?side2 A11.out).mono ?_); (case side1 => refine (Kd.R_reads' (e := 34) (base := w.heap.size) (ok := fun k_ => ((True ∧ some k_ ≠ (.slice Ao18 t212.length co18 : Value).ownBlock) ∧ some k_ ≠ (.slice Ao23 t217.length co23 : Value).ownBlock)) (n := t224.length) (c := co30) ?_).2.2; exact (by (with_reducible repeat (first | apply Kd.R_alloc | apply Kd.R_drewN | apply Kd.R_drew)); exact (Kd.R_mono (Kd.R_far (p := ⟨gb227, 2, none⟩) (Kd.R_far (p := ⟨gb227, 1, none⟩) (Kd.R_far (p := ⟨gb227, 0, none⟩) (Kd.R_types HO226.out BK227.out (by decide)) (fun _ hk => hk.2) (.int .i64 t222)) (fun _ hk => hk.2) (.int .i64 t223)) (fun _ hk => hk.2) (.slice Ao30 t224.length co30)) (fun _ h_ => h_.1)))); (case side2 => exact (Kd.R_reads' HO226.out).2.1); rintro e w31 ⟨v231, rfl, ho0, hb⟩; refine ⟨_, rfl, ?_⟩; have HO232 := As_ (Kd.R_lower (Kd.R_new' (Kd.R_new' (Kd.R_new' ho0 (Kd.R_lt (by (with_reducible repeat (first | apply Kd.R_alloc | apply Kd.R_drewN | apply Kd.R_drew)); exact (Kd.R_mono (Kd.R_far (p := ⟨gb227, 2, none⟩) (Kd.R_far (p := ⟨gb227, 1, none⟩) (Kd.R_far (p := ⟨gb227, 0, none⟩) (Kd.R_types HO214.out BK227.out (by decide)) (fun _ hk => hk.2) (.int .i64 t222)) (fun _ hk => hk.2) (.int .i64 t223)) (fun _ hk => hk.2) (.slice Ao30 t224.length co30)) (fun _ h_ => h_.1))))) (Kd.R_lt (by (with_reducible repeat (first | apply Kd.R_alloc | apply Kd.R_drewN | apply Kd.R_drew)); exact (Kd.R_mono (Kd.R_far (p := ⟨gb227, 2, none⟩) (Kd.R_far (p := ⟨gb227, 1, none⟩) (Kd.R_far (p := ⟨gb227, 0, none⟩) (Kd.R_types HO219.out BK227.out (by decide)) (fun _ hk => hk.2) (.int .i64 t222)) (fun _ hk => hk.2) (.int .i64 t223)) (fun _ hk => hk.2) (.slice Ao30 t224.length co30)) (fun _ h_ => h_.1))))) (Kd.R_lt (by (with_reducible repeat (first | apply Kd.R_alloc | apply Kd.R_drewN | apply Kd.R_drew)); exact (Kd.R_mono (Kd.R_far (p := ⟨gb227, 2, none⟩) (Kd.R_far (p := ⟨gb227, 1, none⟩) (Kd.R_far (p := ⟨gb227, 0, none⟩) (Kd.R_types HO226.out BK227.out (by decide)) (fun _ hk => hk.2) (.int .i64 t222)) (fun _ hk => hk.2) (.int .i64 t223)) (fun _ hk => hk.2) (.slice Ao30 t224.length co30)) (fun _ h_ => h_.1))))) (below_size (by repeat (first | (with_reducible first | exact HB.out | apply below_alloc | apply pw_below_drewN | apply below_drew1 | refine below_setA ?_ (by assumption)) | exact HB.out)))); replace HO214 := As_ (Kd.R_elder' (by (with_reducible repeat (first | apply Kd.R_alloc | apply Kd.R_drewN | apply Kd.R_drew)); exact (Kd.R_mono (Kd.R_far (p := ⟨gb227, 2, none⟩) (Kd.R_far (p := ⟨gb227, 1, none⟩) (Kd.R_far (p := ⟨gb227, 0, none⟩) (Kd.R_types HO214.out BK227.out (by decide)) (fun _ hk => hk.2) (.int .i64 t222)) (fun _ hk => hk.2) (.int .i64 t223)) (fun _ hk => hk.2) (.slice Ao30 t224.length co30)) (fun _ h_ => h_.1))) (Kd.R_base ho0) hb); replace HO219 := As_ (Kd.R_elder' (by (with_reducible repeat (first | apply Kd.R_alloc | apply Kd.R_drewN | apply Kd.R_drew)); exact (Kd.R_mono (Kd.R_far (p := ⟨gb227, 2, none⟩) (Kd.R_far (p := ⟨gb227, 1, none⟩) (Kd.R_far (p := ⟨gb227, 0, none⟩) (Kd.R_types HO219.out BK227.out (by decide)) (fun _ hk => hk.2) (.int .i64 t222)) (fun _ hk => hk.2) (.int .i64 t223)) (fun _ hk => hk.2) (.slice Ao30 t224.length co30)) (fun _ h_ => h_.1))) (Kd.R_base ho0) hb); replace HO226 := As_ (Kd.R_elder' (by (with_reducible repeat (first | apply Kd.R_alloc | apply Kd.R_drewN | apply Kd.R_drew)); exact (Kd.R_mono (Kd.R_far (p := ⟨gb227, 2, none⟩) (Kd.R_far (p := ⟨gb227, 1, none⟩) (Kd.R_far (p := ⟨gb227, 0, none⟩) (Kd.R_types HO226.out BK227.out (by decide)) (fun _ hk => hk.2) (.int .i64 t222)) (fun _ hk => hk.2) (.int .i64 t223)) (fun _ hk => hk.2) (.slice Ao30 t224.length co30)) (fun _ h_ => h_.1))) (Kd.R_base ho0) hb); replace BK208 := As_ (blk_below (g := gb208) (o := .cells #[.int .i64 a0_0, .int .i64 a0_1, .slice A0_2 l0_2.length c0_2] 24 (0, 0)) (by (with_reducible repeat (first | refine blk_drewN ?_ _ | refine blk_drew ?_ | refine blk_alloc ?_ _)); refine blk_far ?_ NB208_227.out _; refine blk_far ?_ NB208_227.out _; refine blk_far ?_ NB208_227.out _; (with_reducible repeat (first | refine blk_drewN ?_ _ | refine blk_drew ?_ | refine blk_alloc ?_ _)); exact BK208.out) hb); replace BK221 := As_ (blk_below (g := gb221) (o := .cells #[.int .i64 t215, .int .i64 t216, .slice Ao23 t217.length co23] 30 (0, 0)) (by (with_reducible repeat (first | refine blk_drewN ?_ _ | refine blk_drew ?_ | refine blk_alloc ?_ _)); refine blk_far ?_ NB221_227.out _; refine blk_far ?_ NB221_227.out _; refine blk_far ?_ NB221_227.out _; (with_reducible repeat (first | refine blk_drewN ?_ _ | refine blk_drew ?_ | refine blk_alloc ?_ _)); exact BK221.out) hb); replace BK227 := As_ (blk_below (g := gb227) (o := .cells #[.int .i64 t222, .int .i64 t223, .slice Ao30 t224.length co30] 30 (0, 0)) (by (with_reducible repeat (first | refine blk_drewN ?_ _ | refine blk_drew ?_ | refine blk_alloc ?_ _)); refine blk_put (cs := #[.int .i64 t222, .int .i64 t223, .slice none 0 0]) ?_ 2 _ rfl; refine blk_put (cs := #[.int .i64 t222, .int .i64 0, .slice none 0 0]) ?_ 1 _ rfl; refine blk_put (cs := #[.int .i64 0, .int .i64 0, .slice none 0 0]) ?_ 0 _ rfl; (with_reducible repeat (first | refine blk_drewN ?_ _ | refine blk_drew ?_ | refine blk_alloc ?_ _)); exact BK227.out) hb); replace HB := As_ (below_step (by repeat (first | (with_reducible first | exact HB.out | apply below_alloc | apply pw_below_drewN | apply below_drew1 | refine below_setA ?_ (by assumption)) | exact HB.out)) hb); (try clear hb); (try clear ho0)) | ((with_reducible refine gate_dst (N := 9) rfl ?_); refine box_event ?hg (N := 9) ?hd (cs := #[.int .i64 0, .int .i64 0, .slice none 0 0]) (t := 30) ?hr ?_; (case hd => rfl); (case hg => rfl); (case hr => first | (go_simp; done) | (go_simp; rfl)); intro gb234 hg w32 hbox hb; have BK234 := As_ (hbox); have GW234 := As_ ((by rw [hg]; exact (below_size (by repeat (first | (with_reducible first | exact HB.out | apply below_alloc | apply pw_below_drewN | apply below_drew1 | refine below_setA ?_ (by assumption)) | exact HB.out))) : w.heap.size ≤ gb234)); have GE234 := As_ ((by rw [hg]; exact (below_size (by repeat (first | (with_reducible first | exact HB.out | apply below_alloc | apply pw_below_drewN | apply below_drew1 | refine below_setA ?_ (by assumption)) | exact HB.out))) : w.heap.size ≤ gb234)); have NB208_234 := As_ (ne_lt hg BK208.out); have NB234_208 := As_ (ne_gt hg BK208.out); have NB221_234 := As_ (ne_lt hg BK221.out); have NB234_221 := As_ (ne_gt hg BK221.out); have NB227_234 := As_ (ne_lt hg BK227.out); have NB234_227 := As_ (ne_gt hg BK227.out); replace HO214 := As_ (Kd.R_below (by (with_reducible repeat (first | apply Kd.R_alloc | apply Kd.R_drewN | apply Kd.R_drew)); exact HO214.out) hb); replace HO219 := As_ (Kd.R_below (by (with_reducible repeat (first | apply Kd.R_alloc | apply Kd.R_drewN | apply Kd.R_drew)); exact HO219.out) hb); replace HO226 := As_ (Kd.R_below (by (with_reducible repeat (first | apply Kd.R_alloc | apply Kd.R_drewN | apply Kd.R_drew)); exact HO226.out) hb); replace HO232 := As_ (Kd.R_below (by (with_reducible repeat (first | apply Kd.R_alloc | apply Kd.R_drewN | apply Kd.R_drew)); exact HO232.out) hb); replace BK208 := As_ (blk_b hb BK208.out); replace BK221 := As_ (blk_b hb BK221.out); replace BK227 := As_ (blk_b hb BK227.out); replace HB := As_ (below_step (by repeat (first | (with_reducible first | exact HB.out | apply below_alloc | apply pw_below_drewN | apply below_drew1 | refine below_setA ?_ (by assumption)) | exact HB.out)) hb); clear hb hbox hg; have hnb33 := NB234_208.out; have hnc33 := NB208_234.out; have hnb34 := NB234_221.out; have hnc34 := NB221_234.out; have hnb35 := NB234_227.out; have hnc35 := NB227_234.out; have hcz36_0 : w32.cell? ⟨gb234, 0, none⟩ = some (.int .i64 0) := (blk_cell BK234.out 0).trans rfl; have hcz36_1 : w32.cell? ⟨gb234, 1, none⟩ = some (.int .i64 0) := (blk_cell BK234.out 1).trans rfl; have hcz36_2 : w32.cell? ⟨gb234, 2, none⟩ = some (.slice none 0 0) := (blk_cell BK234.out 2).trans rfl; have hfz36_0 := blk_frozen BK234.out 0; have hfz36_1 := blk_frozen BK234.out 1; have hfz36_2 := blk_frozen BK234.out 2; obtain ⟨Ao37, co37, eo37⟩ := Kd.R_slice HO232.out; subst eo37))
    (try simp only [Act.put, List.setIfInBounds_toArray, List.set_cons_zero, List.set_cons_succ])
    go_cut [44] (fun v44 wc => ∃ (kq : Nat) (x44_11 : Bool), v44 = .bool x44_11 ∧ Aside0 (laws_FnExactDropClue.j0 kq a1 t220 t233 x44_11 a0_0 a0_1 l0_2 t215 t216 t217 t222 t223 t224 t228 t229 t230 = some r) ∧ Aside0 (kq ≤ k) ∧ Aside0 (Kd.R k34 34 wc w.heap.size (fun k_ => some k_ ≠ ((.slice Ao30 t224.length co30) : Value).ownBlock ∧ some k_ ≠ ((.slice Ao37 t230.length co37) : Value).ownBlock) (.slice Ao23 t217.length co23) t217) ∧ Aside0 (Kd.R k34 34 wc w.heap.size (fun k_ => some k_ ≠ ((.slice Ao23 t217.length co23) : Value).ownBlock ∧ some k_ ≠ ((.slice Ao37 t230.length co37) : Value).ownBlock) (.slice Ao30 t224.length co30) t224) ∧ Aside0 (Kd.R k34 34 wc w.heap.size (fun k_ => some k_ ≠ ((.slice Ao23 t217.length co23) : Value).ownBlock ∧ some k_ ≠ ((.slice Ao30 t224.length co30) : Value).ownBlock) (.slice Ao37 t230.length co37) t230) ∧ Aside0 (wc.heap[gb208]? = some (.cells #[.int .i64 a0_0, .int .i64 a0_1, (.slice A0_2 l0_2.length c0_2)] 24 (0, 0))) ∧ Aside0 (wc.heap[gb221]? = some (.cells #[.int .i64 t215, .int .i64 t216, (.slice Ao23 t217.length co23)] 30 (0, 0))) ∧ Aside0 (wc.heap[gb227]? = some (.cells #[.int .i64 t222, .int .i64 t223, (.slice Ao30 t224.length co30)] 30 (0, 0))) ∧ Aside0 (wc.heap[gb234]? = some (.cells #[.int .i64 t228, .int .i64 t229, (.slice Ao37 t230.length co37)] 30 (0, 0))) ∧ Aside0 (Below w.heap.size w wc))
    case first =>
      have H := HC12.out
      clear HC12
      replace H := Option.bind_eq_some_iff.mp H
      obtain ⟨t235, A380, H⟩ := H
      try dsimp only at H
      have A38 := As_ A380
      clear A380
      by_cases c39 : t235 = true
      · subst c39
        have H1 : (laws_FnExactDropClue.j0 k a1 t220 t233 (t233 != t220) a0_0 a0_1 l0_2 t215 t216 t217 t222 t223 t224 t228 t229 t230) = some r := by rw [if_pos rfl] at H; exact H
        clear H
        have H := H1
        clear H1
        have H' := As_ H
        clear H
        have hnb40 := NB234_208.out
        have hnc40 := NB208_234.out
        have hnb41 := NB234_221.out
        have hnc41 := NB221_234.out
        have hnb42 := NB234_227.out
        have hnc42 := NB227_234.out
        have hcz43_0 : w32.cell? ⟨gb234, 0, none⟩ = some (.int .i64 0) := (blk_cell BK234.out 0).trans rfl
        have hcz43_1 : w32.cell? ⟨gb234, 1, none⟩ = some (.int .i64 0) := (blk_cell BK234.out 1).trans rfl
        have hcz43_2 : w32.cell? ⟨gb234, 2, none⟩ = some (.slice none 0 0) := (blk_cell BK234.out 2).trans rfl
        have hfz43_0 := blk_frozen BK234.out 0
        have hfz43_1 := blk_frozen BK234.out 1
        have hfz43_2 := blk_frozen BK234.out 2
        have hnb44 := NB221_208.out
        have hnc44 := NB208_221.out
        have hnb45 := NB221_227.out
        have hnc45 := NB227_221.out
        have hcz46_0 : w32.cell? ⟨gb221, 0, none⟩ = some (.int .i64 t215) := (blk_cell BK221.out 0).trans rfl
        have hcz46_1 : w32.cell? ⟨gb221, 1, none⟩ = some (.int .i64 t216) := (blk_cell BK221.out 1).trans rfl
        have hcz46_2 : w32.cell? ⟨gb221, 2, none⟩ = some (.slice Ao23 t217.length co23) := (blk_cell BK221.out 2).trans rfl
        have hfz46_0 := blk_frozen BK221.out 0
        have hfz46_1 := blk_frozen BK221.out 1
        have hfz46_2 := blk_frozen BK221.out 2
        go_wp2_with (first | ((with_reducible refine gate_callee (f := 12) rfl ?_); refine goesL_ (some 38) rfl rfl Try.func12 (by kernel_rfl) rfl #[.agg #[.int .i64 t228, .int .i64 t229, .slice Ao37 t230.length co37], .agg #[.int .i64 t215, .int .i64 t216, .slice Ao23 t217.length co23]] rfl (by (try simp only [List.map_toArray, List.map_cons, List.map_nil]); first | done | rfl | (simp only [List.length_drop, List.length_take]; rfl)) ?_; (with_reducible refine (laws_eqPuzzle.calls k t228 t229 _ _ t230 t215 t216 _ _ t217 true _ ?side1 ?side2 ?side3 ?side4 A38.out).mono ?_); (case side1 => refine (Kd.R_reads' (e := 34) (base := w.heap.size) (ok := fun k_ => (((True ∧ some k_ ≠ (.slice Ao18 t212.length co18 : Value).ownBlock) ∧ some k_ ≠ (.slice Ao23 t217.length co23 : Value).ownBlock) ∧ some k_ ≠ (.slice Ao30 t224.length co30 : Value).ownBlock)) (n := t230.length) (c := co37) ?_).2.2; exact (by (with_reducible repeat (first | apply Kd.R_alloc | apply Kd.R_drewN | apply Kd.R_drew)); exact (Kd.R_mono (Kd.R_far (p := ⟨gb234, 2, none⟩) (Kd.R_far (p := ⟨gb234, 1, none⟩) (Kd.R_far (p := ⟨gb234, 0, none⟩) (Kd.R_types HO232.out BK234.out (by decide)) (fun _ hk => hk.2) (.int .i64 t228)) (fun _ hk => hk.2) (.int .i64 t229)) (fun _ hk => hk.2) (.slice Ao37 t230.length co37)) (fun _ h_ => h_.1)))); (case side2 => exact (Kd.R_reads' HO232.out).2.1); (case side3 => refine (Kd.R_reads' (e := 34) (base := w.heap.size) (ok := fun k_ => (((True ∧ some k_ ≠ (.slice Ao18 t212.length co18 : Value).ownBlock) ∧ some k_ ≠ (.slice Ao30 t224.length co30 : Value).ownBlock) ∧ some k_ ≠ (.slice Ao37 t230.length co37 : Value).ownBlock)) (n := t217.length) (c := co23) ?_).2.2; exact (by (with_reducible repeat (first | apply Kd.R_alloc | apply Kd.R_drewN | apply Kd.R_drew)); exact (Kd.R_mono (Kd.R_far (p := ⟨gb234, 2, none⟩) (Kd.R_far (p := ⟨gb234, 1, none⟩) (Kd.R_far (p := ⟨gb234, 0, none⟩) (Kd.R_types HO219.out BK234.out (by decide)) (fun _ hk => hk.2) (.int .i64 t228)) (fun _ hk => hk.2) (.int .i64 t229)) (fun _ hk => hk.2) (.slice Ao37 t230.length co37)) (fun _ h_ => h_.1)))); (case side4 => exact (Kd.R_reads' HO219.out).2.1); rintro e w47 ⟨rfl, hb⟩; refine ⟨_, rfl, ?_⟩; replace HO214 := As_ (Kd.R_below (by (with_reducible repeat (first | apply Kd.R_alloc | apply Kd.R_drewN | apply Kd.R_drew)); exact (Kd.R_mono (Kd.R_far (p := ⟨gb234, 2, none⟩) (Kd.R_far (p := ⟨gb234, 1, none⟩) (Kd.R_far (p := ⟨gb234, 0, none⟩) (Kd.R_types HO214.out BK234.out (by decide)) (fun _ hk => hk.2) (.int .i64 t228)) (fun _ hk => hk.2) (.int .i64 t229)) (fun _ hk => hk.2) (.slice Ao37 t230.length co37)) (fun _ h_ => h_.1))) hb); replace HO219 := As_ (Kd.R_below (by (with_reducible repeat (first | apply Kd.R_alloc | apply Kd.R_drewN | apply Kd.R_drew)); exact (Kd.R_mono (Kd.R_far (p := ⟨gb234, 2, none⟩) (Kd.R_far (p := ⟨gb234, 1, none⟩) (Kd.R_far (p := ⟨gb234, 0, none⟩) (Kd.R_types HO219.out BK234.out (by decide)) (fun _ hk => hk.2) (.int .i64 t228)) (fun _ hk => hk.2) (.int .i64 t229)) (fun _ hk => hk.2) (.slice Ao37 t230.length co37)) (fun _ h_ => h_.1))) hb); replace HO226 := As_ (Kd.R_below (by (with_reducible repeat (first | apply Kd.R_alloc | apply Kd.R_drewN | apply Kd.R_drew)); exact (Kd.R_mono (Kd.R_far (p := ⟨gb234, 2, none⟩) (Kd.R_far (p := ⟨gb234, 1, none⟩) (Kd.R_far (p := ⟨gb234, 0, none⟩) (Kd.R_types HO226.out BK234.out (by decide)) (fun _ hk => hk.2) (.int .i64 t228)) (fun _ hk => hk.2) (.int .i64 t229)) (fun _ hk => hk.2) (.slice Ao37 t230.length co37)) (fun _ h_ => h_.1))) hb); replace HO232 := As_ (Kd.R_below (by (with_reducible repeat (first | apply Kd.R_alloc | apply Kd.R_drewN | apply Kd.R_drew)); exact (Kd.R_mono (Kd.R_far (p := ⟨gb234, 2, none⟩) (Kd.R_far (p := ⟨gb234, 1, none⟩) (Kd.R_far (p := ⟨gb234, 0, none⟩) (Kd.R_types HO232.out BK234.out (by decide)) (fun _ hk => hk.2) (.int .i64 t228)) (fun _ hk => hk.2) (.int .i64 t229)) (fun _ hk => hk.2) (.slice Ao37 t230.length co37)) (fun _ h_ => h_.1))) hb); replace BK208 := As_ (blk_below (g := gb208) (o := .cells #[.int .i64 a0_0, .int .i64 a0_1, .slice A0_2 l0_2.length c0_2] 24 (0, 0)) (by (with_reducible repeat (first | refine blk_drewN ?_ _ | refine blk_drew ?_ | refine blk_alloc ?_ _)); refine blk_far ?_ NB208_234.out _; refine blk_far ?_ NB208_234.out _; refine blk_far ?_ NB208_234.out _; (with_reducible repeat (first | refine blk_drewN ?_ _ | refine blk_drew ?_ | refine blk_alloc ?_ _)); exact BK208.out) hb); replace BK221 := As_ (blk_below (g := gb221) (o := .cells #[.int .i64 t215, .int .i64 t216, .slice Ao23 t217.length co23] 30 (0, 0)) (by (with_reducible repeat (first | refine blk_drewN ?_ _ | refine blk_drew ?_ | refine blk_alloc ?_ _)); refine blk_far ?_ NB221_234.out _; refine blk_far ?_ NB221_234.out _; refine blk_far ?_ NB221_234.out _; (with_reducible repeat (first | refine blk_drewN ?_ _ | refine blk_drew ?_ | refine blk_alloc ?_ _)); exact BK221.out) hb); replace BK227 := As_ (blk_below (g := gb227) (o := .cells #[.int .i64 t222, .int .i64 t223, .slice Ao30 t224.length co30] 30 (0, 0)) (by (with_reducible repeat (first | refine blk_drewN ?_ _ | refine blk_drew ?_ | refine blk_alloc ?_ _)); refine blk_far ?_ NB227_234.out _; refine blk_far ?_ NB227_234.out _; refine blk_far ?_ NB227_234.out _; (with_reducible repeat (first | refine blk_drewN ?_ _ | refine blk_drew ?_ | refine blk_alloc ?_ _)); exact BK227.out) hb); replace BK234 := As_ (blk_below (g := gb234) (o := .cells #[.int .i64 t228, .int .i64 t229, .slice Ao37 t230.length co37] 30 (0, 0)) (by (with_reducible repeat (first | refine blk_drewN ?_ _ | refine blk_drew ?_ | refine blk_alloc ?_ _)); refine blk_put (cs := #[.int .i64 t228, .int .i64 t229, .slice none 0 0]) ?_ 2 _ rfl; refine blk_put (cs := #[.int .i64 t228, .int .i64 0, .slice none 0 0]) ?_ 1 _ rfl; refine blk_put (cs := #[.int .i64 0, .int .i64 0, .slice none 0 0]) ?_ 0 _ rfl; (with_reducible repeat (first | refine blk_drewN ?_ _ | refine blk_drew ?_ | refine blk_alloc ?_ _)); exact BK234.out) hb); replace HB := As_ (below_step (by repeat (first | (with_reducible first | exact HB.out | apply below_alloc | apply pw_below_drewN | apply below_drew1 | refine below_setA ?_ (by assumption)) | exact HB.out)) hb); (try clear hb)))
        go_meet
        case rel => exact ⟨_, ((t233 != t220)), (by first | rfl | (simp; done) | (simp [*]; done)), H', ⟨by first | omega | exact Nat.le_refl _⟩, ⟨by (with_reducible repeat (first | apply Kd.R_alloc | apply Kd.R_drewN | apply Kd.R_drew)); exact Kd.R_mono HO219.out (fun _ hk => ⟨hk.1.2, hk.2⟩)⟩, ⟨by (with_reducible repeat (first | apply Kd.R_alloc | apply Kd.R_drewN | apply Kd.R_drew)); exact Kd.R_mono HO226.out (fun _ hk => ⟨hk.1.2, hk.2⟩)⟩, ⟨by (with_reducible repeat (first | apply Kd.R_alloc | apply Kd.R_drewN | apply Kd.R_drew)); exact Kd.R_mono HO232.out (fun _ hk => ⟨hk.1.2, hk.2⟩)⟩, ⟨by (with_reducible repeat (first | refine blk_drewN ?_ _ | refine blk_drew ?_ | refine blk_alloc ?_ _)); exact BK208.out⟩, ⟨by (with_reducible repeat (first | refine blk_drewN ?_ _ | refine blk_drew ?_ | refine blk_alloc ?_ _)); exact BK221.out⟩, ⟨by (with_reducible repeat (first | refine blk_drewN ?_ _ | refine blk_drew ?_ | refine blk_alloc ?_ _)); exact BK227.out⟩, ⟨by (with_reducible repeat (first | refine blk_drewN ?_ _ | refine blk_drew ?_ | refine blk_alloc ?_ _)); exact BK234.out⟩, ⟨by repeat (first | (with_reducible first | exact HB.out | apply below_alloc | apply pw_below_drewN | apply below_drew1 | refine below_setA ?_ (by assumption)) | exact HB.out)⟩⟩
      · replace c39 := Bool.eq_false_iff.mpr c39
        subst c39
        have H1 : (laws_FnExactDropClue.j0 k a1 t220 t233 true a0_0 a0_1 l0_2 t215 t216 t217 t222 t223 t224 t228 t229 t230) = some r := by rw [if_neg (show ¬ (false = true) by decide)] at H; exact H
        clear H
        have H := H1
        clear H1
        have H' := As_ H
        clear H
        have hnb48 := NB234_208.out
        have hnc48 := NB208_234.out
        have hnb49 := NB234_221.out
        have hnc49 := NB221_234.out
        have hnb50 := NB234_227.out
        have hnc50 := NB227_234.out
        have hcz51_0 : w32.cell? ⟨gb234, 0, none⟩ = some (.int .i64 0) := (blk_cell BK234.out 0).trans rfl
        have hcz51_1 : w32.cell? ⟨gb234, 1, none⟩ = some (.int .i64 0) := (blk_cell BK234.out 1).trans rfl
        have hcz51_2 : w32.cell? ⟨gb234, 2, none⟩ = some (.slice none 0 0) := (blk_cell BK234.out 2).trans rfl
        have hfz51_0 := blk_frozen BK234.out 0
        have hfz51_1 := blk_frozen BK234.out 1
        have hfz51_2 := blk_frozen BK234.out 2
        have hnb52 := NB221_208.out
        have hnc52 := NB208_221.out
        have hnb53 := NB221_227.out
        have hnc53 := NB227_221.out
        have hcz54_0 : w32.cell? ⟨gb221, 0, none⟩ = some (.int .i64 t215) := (blk_cell BK221.out 0).trans rfl
        have hcz54_1 : w32.cell? ⟨gb221, 1, none⟩ = some (.int .i64 t216) := (blk_cell BK221.out 1).trans rfl
        have hcz54_2 : w32.cell? ⟨gb221, 2, none⟩ = some (.slice Ao23 t217.length co23) := (blk_cell BK221.out 2).trans rfl
        have hfz54_0 := blk_frozen BK221.out 0
        have hfz54_1 := blk_frozen BK221.out 1
        have hfz54_2 := blk_frozen BK221.out 2
        go_wp2_with (first | ((with_reducible refine gate_callee (f := 12) rfl ?_); refine goesL_ (some 38) rfl rfl Try.func12 (by kernel_rfl) rfl #[.agg #[.int .i64 t228, .int .i64 t229, .slice Ao37 t230.length co37], .agg #[.int .i64 t215, .int .i64 t216, .slice Ao23 t217.length co23]] rfl (by (try simp only [List.map_toArray, List.map_cons, List.map_nil]); first | done | rfl | (simp only [List.length_drop, List.length_take]; rfl)) ?_; (with_reducible refine (laws_eqPuzzle.calls k t228 t229 _ _ t230 t215 t216 _ _ t217 false _ ?side1 ?side2 ?side3 ?side4 A38.out).mono ?_); (case side1 => refine (Kd.R_reads' (e := 34) (base := w.heap.size) (ok := fun k_ => (((True ∧ some k_ ≠ (.slice Ao18 t212.length co18 : Value).ownBlock) ∧ some k_ ≠ (.slice Ao23 t217.length co23 : Value).ownBlock) ∧ some k_ ≠ (.slice Ao30 t224.length co30 : Value).ownBlock)) (n := t230.length) (c := co37) ?_).2.2; exact (by (with_reducible repeat (first | apply Kd.R_alloc | apply Kd.R_drewN | apply Kd.R_drew)); exact (Kd.R_mono (Kd.R_far (p := ⟨gb234, 2, none⟩) (Kd.R_far (p := ⟨gb234, 1, none⟩) (Kd.R_far (p := ⟨gb234, 0, none⟩) (Kd.R_types HO232.out BK234.out (by decide)) (fun _ hk => hk.2) (.int .i64 t228)) (fun _ hk => hk.2) (.int .i64 t229)) (fun _ hk => hk.2) (.slice Ao37 t230.length co37)) (fun _ h_ => h_.1)))); (case side2 => exact (Kd.R_reads' HO232.out).2.1); (case side3 => refine (Kd.R_reads' (e := 34) (base := w.heap.size) (ok := fun k_ => (((True ∧ some k_ ≠ (.slice Ao18 t212.length co18 : Value).ownBlock) ∧ some k_ ≠ (.slice Ao30 t224.length co30 : Value).ownBlock) ∧ some k_ ≠ (.slice Ao37 t230.length co37 : Value).ownBlock)) (n := t217.length) (c := co23) ?_).2.2; exact (by (with_reducible repeat (first | apply Kd.R_alloc | apply Kd.R_drewN | apply Kd.R_drew)); exact (Kd.R_mono (Kd.R_far (p := ⟨gb234, 2, none⟩) (Kd.R_far (p := ⟨gb234, 1, none⟩) (Kd.R_far (p := ⟨gb234, 0, none⟩) (Kd.R_types HO219.out BK234.out (by decide)) (fun _ hk => hk.2) (.int .i64 t228)) (fun _ hk => hk.2) (.int .i64 t229)) (fun _ hk => hk.2) (.slice Ao37 t230.length co37)) (fun _ h_ => h_.1)))); (case side4 => exact (Kd.R_reads' HO219.out).2.1); rintro e w55 ⟨rfl, hb⟩; refine ⟨_, rfl, ?_⟩; replace HO214 := As_ (Kd.R_below (by (with_reducible repeat (first | apply Kd.R_alloc | apply Kd.R_drewN | apply Kd.R_drew)); exact (Kd.R_mono (Kd.R_far (p := ⟨gb234, 2, none⟩) (Kd.R_far (p := ⟨gb234, 1, none⟩) (Kd.R_far (p := ⟨gb234, 0, none⟩) (Kd.R_types HO214.out BK234.out (by decide)) (fun _ hk => hk.2) (.int .i64 t228)) (fun _ hk => hk.2) (.int .i64 t229)) (fun _ hk => hk.2) (.slice Ao37 t230.length co37)) (fun _ h_ => h_.1))) hb); replace HO219 := As_ (Kd.R_below (by (with_reducible repeat (first | apply Kd.R_alloc | apply Kd.R_drewN | apply Kd.R_drew)); exact (Kd.R_mono (Kd.R_far (p := ⟨gb234, 2, none⟩) (Kd.R_far (p := ⟨gb234, 1, none⟩) (Kd.R_far (p := ⟨gb234, 0, none⟩) (Kd.R_types HO219.out BK234.out (by decide)) (fun _ hk => hk.2) (.int .i64 t228)) (fun _ hk => hk.2) (.int .i64 t229)) (fun _ hk => hk.2) (.slice Ao37 t230.length co37)) (fun _ h_ => h_.1))) hb); replace HO226 := As_ (Kd.R_below (by (with_reducible repeat (first | apply Kd.R_alloc | apply Kd.R_drewN | apply Kd.R_drew)); exact (Kd.R_mono (Kd.R_far (p := ⟨gb234, 2, none⟩) (Kd.R_far (p := ⟨gb234, 1, none⟩) (Kd.R_far (p := ⟨gb234, 0, none⟩) (Kd.R_types HO226.out BK234.out (by decide)) (fun _ hk => hk.2) (.int .i64 t228)) (fun _ hk => hk.2) (.int .i64 t229)) (fun _ hk => hk.2) (.slice Ao37 t230.length co37)) (fun _ h_ => h_.1))) hb); replace HO232 := As_ (Kd.R_below (by (with_reducible repeat (first | apply Kd.R_alloc | apply Kd.R_drewN | apply Kd.R_drew)); exact (Kd.R_mono (Kd.R_far (p := ⟨gb234, 2, none⟩) (Kd.R_far (p := ⟨gb234, 1, none⟩) (Kd.R_far (p := ⟨gb234, 0, none⟩) (Kd.R_types HO232.out BK234.out (by decide)) (fun _ hk => hk.2) (.int .i64 t228)) (fun _ hk => hk.2) (.int .i64 t229)) (fun _ hk => hk.2) (.slice Ao37 t230.length co37)) (fun _ h_ => h_.1))) hb); replace BK208 := As_ (blk_below (g := gb208) (o := .cells #[.int .i64 a0_0, .int .i64 a0_1, .slice A0_2 l0_2.length c0_2] 24 (0, 0)) (by (with_reducible repeat (first | refine blk_drewN ?_ _ | refine blk_drew ?_ | refine blk_alloc ?_ _)); refine blk_far ?_ NB208_234.out _; refine blk_far ?_ NB208_234.out _; refine blk_far ?_ NB208_234.out _; (with_reducible repeat (first | refine blk_drewN ?_ _ | refine blk_drew ?_ | refine blk_alloc ?_ _)); exact BK208.out) hb); replace BK221 := As_ (blk_below (g := gb221) (o := .cells #[.int .i64 t215, .int .i64 t216, .slice Ao23 t217.length co23] 30 (0, 0)) (by (with_reducible repeat (first | refine blk_drewN ?_ _ | refine blk_drew ?_ | refine blk_alloc ?_ _)); refine blk_far ?_ NB221_234.out _; refine blk_far ?_ NB221_234.out _; refine blk_far ?_ NB221_234.out _; (with_reducible repeat (first | refine blk_drewN ?_ _ | refine blk_drew ?_ | refine blk_alloc ?_ _)); exact BK221.out) hb); replace BK227 := As_ (blk_below (g := gb227) (o := .cells #[.int .i64 t222, .int .i64 t223, .slice Ao30 t224.length co30] 30 (0, 0)) (by (with_reducible repeat (first | refine blk_drewN ?_ _ | refine blk_drew ?_ | refine blk_alloc ?_ _)); refine blk_far ?_ NB227_234.out _; refine blk_far ?_ NB227_234.out _; refine blk_far ?_ NB227_234.out _; (with_reducible repeat (first | refine blk_drewN ?_ _ | refine blk_drew ?_ | refine blk_alloc ?_ _)); exact BK227.out) hb); replace BK234 := As_ (blk_below (g := gb234) (o := .cells #[.int .i64 t228, .int .i64 t229, .slice Ao37 t230.length co37] 30 (0, 0)) (by (with_reducible repeat (first | refine blk_drewN ?_ _ | refine blk_drew ?_ | refine blk_alloc ?_ _)); refine blk_put (cs := #[.int .i64 t228, .int .i64 t229, .slice none 0 0]) ?_ 2 _ rfl; refine blk_put (cs := #[.int .i64 t228, .int .i64 0, .slice none 0 0]) ?_ 1 _ rfl; refine blk_put (cs := #[.int .i64 0, .int .i64 0, .slice none 0 0]) ?_ 0 _ rfl; (with_reducible repeat (first | refine blk_drewN ?_ _ | refine blk_drew ?_ | refine blk_alloc ?_ _)); exact BK234.out) hb); replace HB := As_ (below_step (by repeat (first | (with_reducible first | exact HB.out | apply below_alloc | apply pw_below_drewN | apply below_drew1 | refine below_setA ?_ (by assumption)) | exact HB.out)) hb); (try clear hb)))
        go_meet
        case rel => exact ⟨_, (true), (by first | rfl | (simp; done) | (simp [*]; done)), H', ⟨by first | omega | exact Nat.le_refl _⟩, ⟨by (with_reducible repeat (first | apply Kd.R_alloc | apply Kd.R_drewN | apply Kd.R_drew)); exact Kd.R_mono HO219.out (fun _ hk => ⟨hk.1.2, hk.2⟩)⟩, ⟨by (with_reducible repeat (first | apply Kd.R_alloc | apply Kd.R_drewN | apply Kd.R_drew)); exact Kd.R_mono HO226.out (fun _ hk => ⟨hk.1.2, hk.2⟩)⟩, ⟨by (with_reducible repeat (first | apply Kd.R_alloc | apply Kd.R_drewN | apply Kd.R_drew)); exact Kd.R_mono HO232.out (fun _ hk => ⟨hk.1.2, hk.2⟩)⟩, ⟨by (with_reducible repeat (first | refine blk_drewN ?_ _ | refine blk_drew ?_ | refine blk_alloc ?_ _)); exact BK208.out⟩, ⟨by (with_reducible repeat (first | refine blk_drewN ?_ _ | refine blk_drew ?_ | refine blk_alloc ?_ _)); exact BK221.out⟩, ⟨by (with_reducible repeat (first | refine blk_drewN ?_ _ | refine blk_drew ?_ | refine blk_alloc ?_ _)); exact BK227.out⟩, ⟨by (with_reducible repeat (first | refine blk_drewN ?_ _ | refine blk_drew ?_ | refine blk_alloc ?_ _)); exact BK234.out⟩, ⟨by repeat (first | (with_reducible first | exact HB.out | apply below_alloc | apply pw_below_drewN | apply below_drew1 | refine below_setA ?_ (by assumption)) | exact HB.out)⟩⟩
    case rest =>
      clear HC12
      try clear c1; try clear c2; try clear p2; try clear c3; try clear c4; try clear c4b0; try clear c5; try clear c7; try clear c9; try clear c12; try clear c15; try clear c16; try clear c21; try clear c27; try clear c28; try clear c33; try clear c34; try clear c35; try clear c39; try clear c40; try clear c41; try clear c42; try clear c44; try clear c45; try clear c48; try clear c49; try clear c50; try clear c52; try clear c53; try clear hcz14_0; try clear hcz14_1; try clear hcz14_2; try clear hcz16_0; try clear hcz16_1; try clear hcz16_2; try clear hcz22_0; try clear hcz22_1; try clear hcz22_2; try clear hcz24_0; try clear hcz24_1; try clear hcz24_2; try clear hcz29_0; try clear hcz29_1; try clear hcz29_2; try clear hcz36_0; try clear hcz36_1; try clear hcz36_2; try clear hcz43_0; try clear hcz43_1; try clear hcz43_2; try clear hcz46_0; try clear hcz46_1; try clear hcz46_2; try clear hcz51_0; try clear hcz51_1; try clear hcz51_2; try clear hcz54_0; try clear hcz54_1; try clear hcz54_2; try clear hcz6_0; try clear hcz6_1; try clear hcz6_2; try clear hfz14_0; try clear hfz14_1; try clear hfz14_2; try clear hfz16_0; try clear hfz16_1; try clear hfz16_2; try clear hfz22_0; try clear hfz22_1; try clear hfz22_2; try clear hfz24_0; try clear hfz24_1; try clear hfz24_2; try clear hfz29_0; try clear hfz29_1; try clear hfz29_2; try clear hfz36_0; try clear hfz36_1; try clear hfz36_2; try clear hfz43_0; try clear hfz43_1; try clear hfz43_2; try clear hfz46_0; try clear hfz46_1; try clear hfz46_2; try clear hfz51_0; try clear hfz51_1; try clear hfz51_2; try clear hfz54_0; try clear hfz54_1; try clear hfz54_2; try clear hfz6_0; try clear hfz6_1; try clear hfz6_2
      obtain ⟨kq, x44_11, rfl, HA, HJ11, HO_222002, HO_228002, HO_235002, BK208, BK221, BK227, BK234, HB⟩ := hcut
      rcases kq with _ | kj11
      · exact absurd HA.out (by simp [laws_FnExactDropClue.j0])
      have H := HA.out
      clear HA
      simp only [laws_FnExactDropClue.j0] at H
      by_cases c56 : x44_11 = true
      · subst c56
        have H1 : (none) = some r := by rw [if_pos rfl] at H; exact H
        clear H
        have H := H1
        clear H1
        exact absurd H (by simp)
      replace c56 := Bool.eq_false_iff.mpr c56
      subst c56
      have H1 : ((laws_toPuzzle.f kj11 a0_0 a0_1 l0_2).bind fun bt236 => ((laws_eqPuzzle.f kj11 t222 t223 t224 bt236.1 bt236.2.1 bt236.2.2).bind fun t241 => (if t241 = true then ((laws_markPuzzle.f kj11 t222 t223 t224 1).bind fun bt242 => (if bt242.1 < 0 then (laws_FnExactDropClue.j1 kj11 a1 t220 true a0_0 a0_1 l0_2 t215 t216 t217 t228 t229 t230) else ((laws_eqPuzzle.f kj11 t228 t229 t230 t215 t216 t217).bind fun t244 => (if t244 = true then (laws_FnExactDropClue.j1 kj11 a1 t220 (t233 != t220) a0_0 a0_1 l0_2 t215 t216 t217 t228 t229 t230) else (laws_FnExactDropClue.j1 kj11 a1 t220 true a0_0 a0_1 l0_2 t215 t216 t217 t228 t229 t230))))) else (none)))) = some r := by rw [if_neg (show ¬ (false = true) by decide)] at H; exact H
      clear H
      have H := H1
      clear H1
      replace H := Option.bind_eq_some_iff.mp H
      obtain ⟨⟨t236, t237, t238⟩, A570, H⟩ := H
      try dsimp only at H
      have A57 := As_ A570
      clear A570
      replace H := Option.bind_eq_some_iff.mp H
      obtain ⟨t241, A580, H⟩ := H
      try dsimp only at H
      have A58 := As_ A580
      clear A580
      by_cases c59 : t241 = true
      case neg =>
        replace c59 := Bool.eq_false_iff.mpr c59
        subst c59
        have H1 : (none) = some r := by rw [if_neg (show ¬ (false = true) by decide)] at H; exact H
        clear H
        have H := H1
        clear H1
        exact absurd H (by simp)

      subst c59
      have H1 : ((laws_markPuzzle.f kj11 t222 t223 t224 1).bind fun bt242 => (if bt242.1 < 0 then (laws_FnExactDropClue.j1 kj11 a1 t220 true a0_0 a0_1 l0_2 t215 t216 t217 t228 t229 t230) else ((laws_eqPuzzle.f kj11 t228 t229 t230 t215 t216 t217).bind fun t244 => (if t244 = true then (laws_FnExactDropClue.j1 kj11 a1 t220 (t233 != t220) a0_0 a0_1 l0_2 t215 t216 t217 t228 t229 t230) else (laws_FnExactDropClue.j1 kj11 a1 t220 true a0_0 a0_1 l0_2 t215 t216 t217 t228 t229 t230))))) = some r := by rw [if_pos rfl] at H; exact H
      clear H
      have H := H1
      clear H1
      replace H := Option.bind_eq_some_iff.mp H
      obtain ⟨⟨t242, t243⟩, A600, H⟩ := H
      try dsimp only at H
      have A60 := As_ A600
      clear A600
      have HC61 := As_ H
      clear H
      try go_wp2
      replace HO_222002 := As_ (Kd.R_drew HO_222002.out)
      replace HO_228002 := As_ (Kd.R_drew HO_228002.out)
      replace HO_235002 := As_ (Kd.R_drew HO_235002.out)
      replace BK208 := As_ (blk_drew BK208.out)
      replace BK221 := As_ (blk_drew BK221.out)
      replace BK227 := As_ (blk_drew BK227.out)
      replace BK234 := As_ (blk_drew BK234.out)
      replace HB := As_ (below_drew1 HB.out)
      refine start_ (n := 5) (S := fun w' => w'.cell? ⟨gb227, 0, none⟩ = some (.int .i64 t222) ∧ w'.cell? ⟨gb227, 1, none⟩ = some (.int .i64 t223) ∧ w'.cell? ⟨gb227, 2, none⟩ = some (.slice Ao30 t224.length co30) ∧ w'.cell? ⟨gb208, 0, none⟩ = some (.int .i64 a0_0) ∧ w'.cell? ⟨gb208, 1, none⟩ = some (.int .i64 a0_1) ∧ w'.cell? ⟨gb208, 2, none⟩ = some (.slice A0_2 l0_2.length c0_2)) (ds := []) #[false, false, false, false, false] (by kernel_rfl) rfl rfl ⟨(blk_cell BK227.out 0).trans rfl, (blk_cell BK227.out 1).trans rfl, (blk_cell BK227.out 2).trans rfl, (blk_cell BK208.out 0).trans rfl, (blk_cell BK208.out 1).trans rfl, (blk_cell BK208.out 2).trans rfl⟩ (fun hHeld => ?_)
      generalize wc.drew = w62 at HO_222002 HO_228002 HO_235002 BK208 BK221 BK227 BK234 HB hHeld ⊢
      refine take_ (i := 0) (N := some 45) (v := ?_) (a' := ?_) #[true, false, false, false, false] rfl rfl (by kernel_rfl) (fun _ _ _ h => h) (Or.inl ⟨by rfl, ?_⟩) hHeld ?_ ?_
      rotate_left
      · rintro w' ⟨s0, s1, s2, s3, s4, s5⟩
        go_simp
        with_reducible rfl
      rotate_left
      · simp only [Act.put, List.setIfInBounds_toArray, List.set_cons_zero, List.set_cons_succ, i64_w, i32_w]
        rfl
      refine take_ (i := 1) (N := some 46) (v := ?_) (a' := ?_) #[true, true, false, false, false] rfl rfl (by kernel_rfl) (fun _ _ _ h => h) (Or.inl ⟨by rfl, ?_⟩) hHeld ?_ ?_
      rotate_left
      · rintro w' ⟨s0, s1, s2, s3, s4, s5⟩
        go_simp
        with_reducible rfl
      rotate_left
      · simp only [Act.put, List.setIfInBounds_toArray, List.set_cons_zero, List.set_cons_succ, i64_w, i32_w]
        rfl
      refine one_ (i := 2) (N := some 47) #[true, true, true, false, false] rfl rfl (by kernel_rfl) (by decide) (fun K hK => ?_)
      refine goes_ Try.func9 (by kernel_rfl) rfl #[.agg #[.int .i64 a0_0, .int .i64 a0_1, .slice A0_2 l0_2.length c0_2]] (by rfl) rfl rfl (by (try simp only [List.map_toArray, List.map_cons, List.map_nil]); first | done | rfl | (simp only [List.length_drop, List.length_take]; rfl)) ?_
      with_reducible refine (laws_toPuzzle.calls kj11 a0_0 a0_1 _ _ l0_2 t236 t237 t238 _ ?side1 ?side2 A57.out).mono ?_
      (case side1 => repeat (first | exact (Kd.C_below HR0_2.out HB.out) | (with_reducible refine Kd.C_alloc ?_ _) | (with_reducible refine Kd.C_drewN ?_ _) | (with_reducible refine Kd.C_drew ?_)))
      (case side2 => exact HC0_2.out)
      rintro e w63 ⟨v239, rfl, ho0, hb⟩
      refine ⟨_, rfl, ?_⟩
      have HO240 := As_ (Kd.R_lower (Kd.R_new' (Kd.R_new' (Kd.R_new' ho0 (Kd.R_lt (by (with_reducible repeat (first | apply Kd.R_alloc | apply Kd.R_drewN | apply Kd.R_drew)); exact HO_222002.out))) (Kd.R_lt (by (with_reducible repeat (first | apply Kd.R_alloc | apply Kd.R_drewN | apply Kd.R_drew)); exact HO_228002.out))) (Kd.R_lt (by (with_reducible repeat (first | apply Kd.R_alloc | apply Kd.R_drewN | apply Kd.R_drew)); exact HO_235002.out))) (below_size (by repeat (first | (with_reducible first | exact HB.out | apply below_alloc | apply pw_below_drewN | apply below_drew1 | refine below_setA ?_ (by assumption)) | exact HB.out))))
      replace HO_222002 := As_ (Kd.R_elder' (by (with_reducible repeat (first | apply Kd.R_alloc | apply Kd.R_drewN | apply Kd.R_drew)); exact HO_222002.out) (Kd.R_base ho0) hb)
      replace HO_228002 := As_ (Kd.R_elder' (by (with_reducible repeat (first | apply Kd.R_alloc | apply Kd.R_drewN | apply Kd.R_drew)); exact HO_228002.out) (Kd.R_base ho0) hb)
      replace HO_235002 := As_ (Kd.R_elder' (by (with_reducible repeat (first | apply Kd.R_alloc | apply Kd.R_drewN | apply Kd.R_drew)); exact HO_235002.out) (Kd.R_base ho0) hb)
      replace BK208 := As_ (blk_b hb BK208.out)
      replace BK221 := As_ (blk_b hb BK221.out)
      replace BK227 := As_ (blk_b hb BK227.out)
      replace BK234 := As_ (blk_b hb BK234.out)
      replace HB := As_ (below_step (by repeat (first | (with_reducible first | exact HB.out | apply below_alloc | apply pw_below_drewN | apply below_drew1 | refine below_setA ?_ (by assumption)) | exact HB.out)) hb)
      (try clear hb)
      (try clear hb2)
      (try clear hk)
      (try clear hi)
      (try clear ho0)
      obtain ⟨Ao64, co64, eo64⟩ := Kd.R_slice HO240.out
      (first | subst eo64 | (injection eo64 with f1_ f2_ f3_; have f4_ := f1_.symm; have f5_ := f3_.symm; clear f1_ f2_ f3_; subst f4_; subst f5_))
      refine hK.out _ _ ⟨(blk_cell BK227.out 0).trans rfl, (blk_cell BK227.out 1).trans rfl, (blk_cell BK227.out 2).trans rfl, (blk_cell BK208.out 0).trans rfl, (blk_cell BK208.out 1).trans rfl, (blk_cell BK208.out 2).trans rfl⟩ (fun hHeld => ?_)
      clear hK K
      refine norm_ (a' := ?_) ?_ ?_
      rotate_left
      · show Act.put _ (some 47) _ = _
        simp only [Act.put, List.setIfInBounds_toArray, List.set_cons_zero, List.set_cons_succ, i64_w, i32_w]
        rfl
      refine one_ (i := 3) (N := some 48) #[true, true, true, true, false] rfl rfl (by kernel_rfl) (by decide) (fun K hK => ?_)
      refine goes_ Try.func12 (by kernel_rfl) rfl #[.agg #[.int .i64 t222, .int .i64 t223, .slice Ao30 t224.length co30], .agg #[.int .i64 t236, .int .i64 t237, .slice Ao64 t238.length co64]] (by rfl) rfl rfl (by (try simp only [List.map_toArray, List.map_cons, List.map_nil]); first | done | rfl | (simp only [List.length_drop, List.length_take]; rfl)) ?_
      with_reducible refine (laws_eqPuzzle.calls kj11 t222 t223 _ _ t224 t236 t237 _ _ t238 true _ ?side1 ?side2 ?side3 ?side4 A58.out).mono ?_
      (case side1 => repeat (first | exact (Kd.R_reads' HO_228002.out).2.2 | (with_reducible refine Kd.C_alloc ?_ _) | (with_reducible refine Kd.C_drewN ?_ _) | (with_reducible refine Kd.C_drew ?_)))
      (case side2 => exact (Kd.R_reads' HO_228002.out).2.1)
      (case side3 => repeat (first | exact (Kd.R_reads' HO240.out).2.2 | (with_reducible refine Kd.C_alloc ?_ _) | (with_reducible refine Kd.C_drewN ?_ _) | (with_reducible refine Kd.C_drew ?_)))
      (case side4 => exact (Kd.R_reads' HO240.out).2.1)
      rintro e w65 ⟨rfl, hb⟩
      refine ⟨_, rfl, ?_⟩
      replace HO_222002 := As_ (Kd.R_below (by (with_reducible repeat (first | apply Kd.R_alloc | apply Kd.R_drewN | apply Kd.R_drew)); exact HO_222002.out) hb)
      replace HO_228002 := As_ (Kd.R_below (by (with_reducible repeat (first | apply Kd.R_alloc | apply Kd.R_drewN | apply Kd.R_drew)); exact HO_228002.out) hb)
      replace HO_235002 := As_ (Kd.R_below (by (with_reducible repeat (first | apply Kd.R_alloc | apply Kd.R_drewN | apply Kd.R_drew)); exact HO_235002.out) hb)
      replace HO240 := As_ (Kd.R_below (by (with_reducible repeat (first | apply Kd.R_alloc | apply Kd.R_drewN | apply Kd.R_drew)); exact HO240.out) hb)
      replace BK208 := As_ (blk_b hb BK208.out)
      replace BK221 := As_ (blk_b hb BK221.out)
      replace BK227 := As_ (blk_b hb BK227.out)
      replace BK234 := As_ (blk_b hb BK234.out)
      replace HB := As_ (below_step (by repeat (first | (with_reducible first | exact HB.out | apply below_alloc | apply pw_below_drewN | apply below_drew1 | refine below_setA ?_ (by assumption)) | exact HB.out)) hb)
      (try clear hb)
      (try clear hb2)
      (try clear hk)
      (try clear hi)
      refine hK.out _ _ ⟨(blk_cell BK227.out 0).trans rfl, (blk_cell BK227.out 1).trans rfl, (blk_cell BK227.out 2).trans rfl, (blk_cell BK208.out 0).trans rfl, (blk_cell BK208.out 1).trans rfl, (blk_cell BK208.out 2).trans rfl⟩ (fun hHeld => ?_)
      clear hK K
      refine norm_ (a' := ?_) ?_ ?_
      rotate_left
      · show Act.put _ (some 48) _ = _
        simp only [Act.put, List.setIfInBounds_toArray, List.set_cons_zero, List.set_cons_succ, i64_w, i32_w]
        rfl
      refine pure_ (i := 4) (N := some 49) (v := ?_) (a' := ?_) #[true, true, true, true, true] rfl rfl (by kernel_rfl) (fun _ _ _ h => h) (Or.inl ⟨by rfl, ?_⟩) ?_ ?_
      rotate_left
      · intro w'
        go_simp
        with_reducible rfl
      rotate_left
      · simp only [Act.put, List.setIfInBounds_toArray, List.set_cons_zero, List.set_cons_succ, i64_w, i32_w]
        rfl
      refine done_ (by kernel_rfl) ?_
      have hnb66 := NB227_208.out
      have hnc66 := NB208_227.out
      have hnb67 := NB227_221.out
      have hnc67 := NB221_227.out
      have hnb68 := NB227_234.out
      have hnc68 := NB234_227.out
      have hcz69_0 : w65.cell? ⟨gb227, 0, none⟩ = some (.int .i64 t222) := (blk_cell BK227.out 0).trans rfl
      have hcz69_1 : w65.cell? ⟨gb227, 1, none⟩ = some (.int .i64 t223) := (blk_cell BK227.out 1).trans rfl
      have hcz69_2 : w65.cell? ⟨gb227, 2, none⟩ = some (.slice Ao30 t224.length co30) := (blk_cell BK227.out 2).trans rfl
      have hfz69_0 := blk_frozen BK227.out 0
      have hfz69_1 := blk_frozen BK227.out 1
      have hfz69_2 := blk_frozen BK227.out 2
      go_upto_region 14 with (first | ((with_reducible refine gate_callee (f := 13) rfl ?_); refine goesL_ (some 52) rfl rfl Try.func13 (by kernel_rfl) rfl #[.agg #[.int .i64 t222, .int .i64 t223, .slice Ao30 t224.length co30], .int .i64 1] rfl (by (try simp only [List.map_toArray, List.map_cons, List.map_nil]); first | done | rfl | (simp only [List.length_drop, List.length_take]; rfl)) ?_; (with_reducible refine (laws_markPuzzle.calls kj11 t222 t223 (fun k_ => some k_ = (.slice Ao30 t224.length co30 : Value).ownBlock) (.slice Ao30 t224.length co30) t224 1 t242 t243 w _ ?side1 ?side2 A60.out).mono ?_); (case side1 => repeat (first | (with_reducible first | exact HB.out | apply below_alloc | apply pw_below_drewN | apply below_drew1 | refine below_setA ?_ (by assumption)) | exact HB.out)); (case side2 => exact Kd.R_tight rfl HO_228002.out); rintro e w70 ⟨rfl, hy0, hb, hkp⟩; refine ⟨_, rfl, ?_⟩; replace HO_222002 := As_ (Kd.R_mono (ok' := fun k_ => some k_ ≠ (.slice Ao30 t224.length co30 : Value).ownBlock ∧ some k_ ≠ (.slice Ao37 t230.length co37 : Value).ownBlock ∧ some k_ ≠ (.slice Ao64 t238.length co64 : Value).ownBlock) (Kd.R_keptB (HO_222002.out) hkp (fun k_ hk_ hs_ => (hk_.1.1) hs_)) (fun k_ hk_ => ⟨hk_.1.1.1, hk_.1.1.2, hk_.1.2⟩)); replace HO_235002 := As_ (Kd.R_mono (ok' := fun k_ => some k_ ≠ (.slice Ao23 t217.length co23 : Value).ownBlock ∧ some k_ ≠ (.slice Ao30 t224.length co30 : Value).ownBlock ∧ some k_ ≠ (.slice Ao64 t238.length co64 : Value).ownBlock) (Kd.R_keptB (HO_235002.out) hkp (fun k_ hk_ hs_ => (hk_.1.2) hs_)) (fun k_ hk_ => ⟨hk_.1.1.1, hk_.1.1.2, hk_.1.2⟩)); replace BK208 := As_ (blk_kept BK208.out hkp (fun hs_ => (fun e_ => (Kd.R_ne HO_228002.out BK208.out (by decide)) e_) hs_)); replace BK221 := As_ (blk_kept BK221.out hkp (fun hs_ => (fun e_ => (Kd.R_ne HO_228002.out BK221.out (by decide)) e_) hs_)); replace BK227 := As_ (blk_kept BK227.out hkp (fun hs_ => (fun e_ => (Kd.R_ne HO_228002.out BK227.out (by decide)) e_) hs_)); replace BK234 := As_ (blk_kept BK234.out hkp (fun hs_ => (fun e_ => (Kd.R_ne HO_228002.out BK234.out (by decide)) e_) hs_)); replace HO_228002 := As_ (Kd.R_reok rfl hy0 (fun k_ e_ => HO_228002.out.1 k_ e_)); replace HO240 := As_ (Kd.R_mono (ok' := fun k_ => some k_ ≠ (.slice Ao23 t217.length co23 : Value).ownBlock ∧ some k_ ≠ (.slice Ao30 t224.length co30 : Value).ownBlock ∧ some k_ ≠ (.slice Ao37 t230.length co37 : Value).ownBlock) (Kd.R_keptB (HO240.out) hkp (fun k_ hk_ hs_ => (hk_.1.2) hs_)) (fun k_ hk_ => ⟨hk_.1.1.1.2, hk_.1.1.2, hk_.1.2⟩)); replace HB := As_ (hb); (try clear hb); (try clear hkp); (try clear hy0)))
      (try simp only [Act.put, List.setIfInBounds_toArray, List.set_cons_zero, List.set_cons_succ])
      go_cut [65] (fun v65 wc => ∃ (kq : Nat) (x65_60 : Bool), v65 = .bool x65_60 ∧ Aside0 (laws_FnExactDropClue.j1 kq a1 t220 x65_60 a0_0 a0_1 l0_2 t215 t216 t217 t228 t229 t230 = some r) ∧ Aside0 (kq ≤ kj11) ∧ Aside0 (Kd.R k34 34 wc w.heap.size (fun k_ => some k_ ≠ ((.slice Ao30 t224.length co30) : Value).ownBlock ∧ some k_ ≠ ((.slice Ao37 t230.length co37) : Value).ownBlock) (.slice Ao23 t217.length co23) t217) ∧ Aside0 (Kd.R k34 34 wc w.heap.size (fun k_ => some k_ ≠ ((.slice Ao23 t217.length co23) : Value).ownBlock ∧ some k_ ≠ ((.slice Ao37 t230.length co37) : Value).ownBlock) (.slice Ao30 t224.length co30) t243) ∧ Aside0 (Kd.R k34 34 wc w.heap.size (fun k_ => some k_ ≠ ((.slice Ao23 t217.length co23) : Value).ownBlock ∧ some k_ ≠ ((.slice Ao30 t224.length co30) : Value).ownBlock) (.slice Ao37 t230.length co37) t230) ∧ Aside0 (wc.heap[gb208]? = some (.cells #[.int .i64 a0_0, .int .i64 a0_1, (.slice A0_2 l0_2.length c0_2)] 24 (0, 0))) ∧ Aside0 (wc.heap[gb221]? = some (.cells #[.int .i64 t215, .int .i64 t216, (.slice Ao23 t217.length co23)] 30 (0, 0))) ∧ Aside0 (wc.heap[gb227]? = some (.cells #[.int .i64 t222, .int .i64 t223, (.slice Ao30 t224.length co30)] 30 (0, 0))) ∧ Aside0 (wc.heap[gb234]? = some (.cells #[.int .i64 t228, .int .i64 t229, (.slice Ao37 t230.length co37)] 30 (0, 0))) ∧ Aside0 (Below w.heap.size w wc))
      case first =>
        have H := HC61.out
        clear HC61
        by_cases c71 : t242 < 0
        · rw [if_pos c71] at H
          have c71b0 : decide (t242 < 0) = true := decide_eq_true c71
          clear c71
          (first | rw [c71b0] | (simp only [i64_w, i32_w]; rw [c71b0]) | skip)
          have H' := As_ H
          clear H
          go_wp2
          go_meet
          case rel => exact ⟨_, (true), (by first | rfl | (simp; done) | (simp [*]; done)), H', ⟨by have := HJ11.out; first | omega | exact Nat.le_refl _⟩, ⟨by (with_reducible repeat (first | apply Kd.R_alloc | apply Kd.R_drewN | apply Kd.R_drew)); exact Kd.R_mono HO_222002.out (fun _ hk => ⟨hk.1, hk.2.1⟩)⟩, ⟨by (with_reducible repeat (first | apply Kd.R_alloc | apply Kd.R_drewN | apply Kd.R_drew)); exact Kd.R_mono HO_228002.out (fun _ hk => ⟨hk.1.1, hk.1.2⟩)⟩, ⟨by (with_reducible repeat (first | apply Kd.R_alloc | apply Kd.R_drewN | apply Kd.R_drew)); exact Kd.R_mono HO_235002.out (fun _ hk => ⟨hk.1, hk.2.1⟩)⟩, ⟨by (with_reducible repeat (first | refine blk_drewN ?_ _ | refine blk_drew ?_ | refine blk_alloc ?_ _)); exact BK208.out⟩, ⟨by (with_reducible repeat (first | refine blk_drewN ?_ _ | refine blk_drew ?_ | refine blk_alloc ?_ _)); exact BK221.out⟩, ⟨by (with_reducible repeat (first | refine blk_drewN ?_ _ | refine blk_drew ?_ | refine blk_alloc ?_ _)); exact BK227.out⟩, ⟨by (with_reducible repeat (first | refine blk_drewN ?_ _ | refine blk_drew ?_ | refine blk_alloc ?_ _)); exact BK234.out⟩, ⟨by repeat (first | (with_reducible first | exact HB.out | apply below_alloc | apply pw_below_drewN | apply below_drew1 | refine below_setA ?_ (by assumption)) | exact HB.out)⟩⟩
        · rw [if_neg c71] at H
          have c71b0 : decide (t242 < 0) = false := decide_eq_false c71
          clear c71
          (first | rw [c71b0] | (simp only [i64_w, i32_w]; rw [c71b0]) | skip)
          replace H := Option.bind_eq_some_iff.mp H
          obtain ⟨t244, A720, H⟩ := H
          try dsimp only at H
          have A72 := As_ A720
          clear A720
          by_cases c73 : t244 = true
          · subst c73
            have H1 : (laws_FnExactDropClue.j1 kj11 a1 t220 (t233 != t220) a0_0 a0_1 l0_2 t215 t216 t217 t228 t229 t230) = some r := by rw [if_pos rfl] at H; exact H
            clear H
            have H := H1
            clear H1
            have H' := As_ H
            clear H
            have hnb74 := NB234_208.out
            have hnc74 := NB208_234.out
            have hnb75 := NB234_221.out
            have hnc75 := NB221_234.out
            have hnb76 := NB234_227.out
            have hnc76 := NB227_234.out
            have hcz77_0 : w70.cell? ⟨gb234, 0, none⟩ = some (.int .i64 t228) := (blk_cell BK234.out 0).trans rfl
            have hcz77_1 : w70.cell? ⟨gb234, 1, none⟩ = some (.int .i64 t229) := (blk_cell BK234.out 1).trans rfl
            have hcz77_2 : w70.cell? ⟨gb234, 2, none⟩ = some (.slice Ao37 t230.length co37) := (blk_cell BK234.out 2).trans rfl
            have hfz77_0 := blk_frozen BK234.out 0
            have hfz77_1 := blk_frozen BK234.out 1
            have hfz77_2 := blk_frozen BK234.out 2
            have hnb78 := NB221_208.out
            have hnc78 := NB208_221.out
            have hnb79 := NB221_227.out
            have hnc79 := NB227_221.out
            have hcz80_0 : w70.cell? ⟨gb221, 0, none⟩ = some (.int .i64 t215) := (blk_cell BK221.out 0).trans rfl
            have hcz80_1 : w70.cell? ⟨gb221, 1, none⟩ = some (.int .i64 t216) := (blk_cell BK221.out 1).trans rfl
            have hcz80_2 : w70.cell? ⟨gb221, 2, none⟩ = some (.slice Ao23 t217.length co23) := (blk_cell BK221.out 2).trans rfl
            have hfz80_0 := blk_frozen BK221.out 0
            have hfz80_1 := blk_frozen BK221.out 1
            have hfz80_2 := blk_frozen BK221.out 2
            go_wp2_with (first | (go_at_call 12; (with_reducible refine (laws_eqPuzzle.calls kj11 t228 t229 _ _ t230 t215 t216 _ _ t217 true _ ?side1 ?side2 ?side3 ?side4 A72.out).mono ?_); (case side1 => repeat (first | exact (Kd.R_reads' HO_235002.out).2.2 | (with_reducible refine Kd.C_alloc ?_ _) | (with_reducible refine Kd.C_drewN ?_ _) | (with_reducible refine Kd.C_drew ?_))); (case side2 => exact (Kd.R_reads' HO_235002.out).2.1); (case side3 => repeat (first | exact (Kd.R_reads' HO_222002.out).2.2 | (with_reducible refine Kd.C_alloc ?_ _) | (with_reducible refine Kd.C_drewN ?_ _) | (with_reducible refine Kd.C_drew ?_))); (case side4 => exact (Kd.R_reads' HO_222002.out).2.1); rintro e w81 ⟨rfl, hb⟩; replace HO_222002 := As_ (Kd.R_below (by (with_reducible repeat (first | apply Kd.R_alloc | apply Kd.R_drewN | apply Kd.R_drew)); exact HO_222002.out) hb); replace HO_228002 := As_ (Kd.R_below (by (with_reducible repeat (first | apply Kd.R_alloc | apply Kd.R_drewN | apply Kd.R_drew)); exact HO_228002.out) hb); replace HO_235002 := As_ (Kd.R_below (by (with_reducible repeat (first | apply Kd.R_alloc | apply Kd.R_drewN | apply Kd.R_drew)); exact HO_235002.out) hb); replace HO240 := As_ (Kd.R_below (by (with_reducible repeat (first | apply Kd.R_alloc | apply Kd.R_drewN | apply Kd.R_drew)); exact HO240.out) hb); replace BK208 := As_ (blk_b hb BK208.out); replace BK221 := As_ (blk_b hb BK221.out); replace BK227 := As_ (blk_b hb BK227.out); replace BK234 := As_ (blk_b hb BK234.out); replace HB := As_ (below_step (by repeat (first | (with_reducible first | exact HB.out | apply below_alloc | apply pw_below_drewN | apply below_drew1 | refine below_setA ?_ (by assumption)) | exact HB.out)) hb); (try clear hb)))
            go_meet
            case rel => exact ⟨_, ((t233 != t220)), (by first | rfl | (simp; done) | (simp [*]; done)), H', ⟨by have := HJ11.out; first | omega | exact Nat.le_refl _⟩, ⟨by (with_reducible repeat (first | apply Kd.R_alloc | apply Kd.R_drewN | apply Kd.R_drew)); exact Kd.R_mono HO_222002.out (fun _ hk => ⟨hk.1, hk.2.1⟩)⟩, ⟨by (with_reducible repeat (first | apply Kd.R_alloc | apply Kd.R_drewN | apply Kd.R_drew)); exact Kd.R_mono HO_228002.out (fun _ hk => ⟨hk.1.1, hk.1.2⟩)⟩, ⟨by (with_reducible repeat (first | apply Kd.R_alloc | apply Kd.R_drewN | apply Kd.R_drew)); exact Kd.R_mono HO_235002.out (fun _ hk => ⟨hk.1, hk.2.1⟩)⟩, ⟨by (with_reducible repeat (first | refine blk_drewN ?_ _ | refine blk_drew ?_ | refine blk_alloc ?_ _)); exact BK208.out⟩, ⟨by (with_reducible repeat (first | refine blk_drewN ?_ _ | refine blk_drew ?_ | refine blk_alloc ?_ _)); exact BK221.out⟩, ⟨by (with_reducible repeat (first | refine blk_drewN ?_ _ | refine blk_drew ?_ | refine blk_alloc ?_ _)); exact BK227.out⟩, ⟨by (with_reducible repeat (first | refine blk_drewN ?_ _ | refine blk_drew ?_ | refine blk_alloc ?_ _)); exact BK234.out⟩, ⟨by repeat (first | (with_reducible first | exact HB.out | apply below_alloc | apply pw_below_drewN | apply below_drew1 | refine below_setA ?_ (by assumption)) | exact HB.out)⟩⟩
          · replace c73 := Bool.eq_false_iff.mpr c73
            subst c73
            have H1 : (laws_FnExactDropClue.j1 kj11 a1 t220 true a0_0 a0_1 l0_2 t215 t216 t217 t228 t229 t230) = some r := by rw [if_neg (show ¬ (false = true) by decide)] at H; exact H
            clear H
            have H := H1
            clear H1
            have H' := As_ H
            clear H
            have hnb82 := NB234_208.out
            have hnc82 := NB208_234.out
            have hnb83 := NB234_221.out
            have hnc83 := NB221_234.out
            have hnb84 := NB234_227.out
            have hnc84 := NB227_234.out
            have hcz85_0 : w70.cell? ⟨gb234, 0, none⟩ = some (.int .i64 t228) := (blk_cell BK234.out 0).trans rfl
            have hcz85_1 : w70.cell? ⟨gb234, 1, none⟩ = some (.int .i64 t229) := (blk_cell BK234.out 1).trans rfl
            have hcz85_2 : w70.cell? ⟨gb234, 2, none⟩ = some (.slice Ao37 t230.length co37) := (blk_cell BK234.out 2).trans rfl
            have hfz85_0 := blk_frozen BK234.out 0
            have hfz85_1 := blk_frozen BK234.out 1
            have hfz85_2 := blk_frozen BK234.out 2
            have hnb86 := NB221_208.out
            have hnc86 := NB208_221.out
            have hnb87 := NB221_227.out
            have hnc87 := NB227_221.out
            have hcz88_0 : w70.cell? ⟨gb221, 0, none⟩ = some (.int .i64 t215) := (blk_cell BK221.out 0).trans rfl
            have hcz88_1 : w70.cell? ⟨gb221, 1, none⟩ = some (.int .i64 t216) := (blk_cell BK221.out 1).trans rfl
            have hcz88_2 : w70.cell? ⟨gb221, 2, none⟩ = some (.slice Ao23 t217.length co23) := (blk_cell BK221.out 2).trans rfl
            have hfz88_0 := blk_frozen BK221.out 0
            have hfz88_1 := blk_frozen BK221.out 1
            have hfz88_2 := blk_frozen BK221.out 2
            go_wp2_with (first | (go_at_call 12; (with_reducible refine (laws_eqPuzzle.calls kj11 t228 t229 _ _ t230 t215 t216 _ _ t217 false _ ?side1 ?side2 ?side3 ?side4 A72.out).mono ?_); (case side1 => repeat (first | exact (Kd.R_reads' HO_235002.out).2.2 | (with_reducible refine Kd.C_alloc ?_ _) | (with_reducible refine Kd.C_drewN ?_ _) | (with_reducible refine Kd.C_drew ?_))); (case side2 => exact (Kd.R_reads' HO_235002.out).2.1); (case side3 => repeat (first | exact (Kd.R_reads' HO_222002.out).2.2 | (with_reducible refine Kd.C_alloc ?_ _) | (with_reducible refine Kd.C_drewN ?_ _) | (with_reducible refine Kd.C_drew ?_))); (case side4 => exact (Kd.R_reads' HO_222002.out).2.1); rintro e w89 ⟨rfl, hb⟩; replace HO_222002 := As_ (Kd.R_below (by (with_reducible repeat (first | apply Kd.R_alloc | apply Kd.R_drewN | apply Kd.R_drew)); exact HO_222002.out) hb); replace HO_228002 := As_ (Kd.R_below (by (with_reducible repeat (first | apply Kd.R_alloc | apply Kd.R_drewN | apply Kd.R_drew)); exact HO_228002.out) hb); replace HO_235002 := As_ (Kd.R_below (by (with_reducible repeat (first | apply Kd.R_alloc | apply Kd.R_drewN | apply Kd.R_drew)); exact HO_235002.out) hb); replace HO240 := As_ (Kd.R_below (by (with_reducible repeat (first | apply Kd.R_alloc | apply Kd.R_drewN | apply Kd.R_drew)); exact HO240.out) hb); replace BK208 := As_ (blk_b hb BK208.out); replace BK221 := As_ (blk_b hb BK221.out); replace BK227 := As_ (blk_b hb BK227.out); replace BK234 := As_ (blk_b hb BK234.out); replace HB := As_ (below_step (by repeat (first | (with_reducible first | exact HB.out | apply below_alloc | apply pw_below_drewN | apply below_drew1 | refine below_setA ?_ (by assumption)) | exact HB.out)) hb); (try clear hb)))
            go_meet
            case rel => exact ⟨_, (true), (by first | rfl | (simp; done) | (simp [*]; done)), H', ⟨by have := HJ11.out; first | omega | exact Nat.le_refl _⟩, ⟨by (with_reducible repeat (first | apply Kd.R_alloc | apply Kd.R_drewN | apply Kd.R_drew)); exact Kd.R_mono HO_222002.out (fun _ hk => ⟨hk.1, hk.2.1⟩)⟩, ⟨by (with_reducible repeat (first | apply Kd.R_alloc | apply Kd.R_drewN | apply Kd.R_drew)); exact Kd.R_mono HO_228002.out (fun _ hk => ⟨hk.1.1, hk.1.2⟩)⟩, ⟨by (with_reducible repeat (first | apply Kd.R_alloc | apply Kd.R_drewN | apply Kd.R_drew)); exact Kd.R_mono HO_235002.out (fun _ hk => ⟨hk.1, hk.2.1⟩)⟩, ⟨by (with_reducible repeat (first | refine blk_drewN ?_ _ | refine blk_drew ?_ | refine blk_alloc ?_ _)); exact BK208.out⟩, ⟨by (with_reducible repeat (first | refine blk_drewN ?_ _ | refine blk_drew ?_ | refine blk_alloc ?_ _)); exact BK221.out⟩, ⟨by (with_reducible repeat (first | refine blk_drewN ?_ _ | refine blk_drew ?_ | refine blk_alloc ?_ _)); exact BK227.out⟩, ⟨by (with_reducible repeat (first | refine blk_drewN ?_ _ | refine blk_drew ?_ | refine blk_alloc ?_ _)); exact BK234.out⟩, ⟨by repeat (first | (with_reducible first | exact HB.out | apply below_alloc | apply pw_below_drewN | apply below_drew1 | refine below_setA ?_ (by assumption)) | exact HB.out)⟩⟩
      case rest =>
        clear HC61
        try clear c1; try clear c2; try clear p2; try clear c3; try clear c4; try clear c4b0; try clear c5; try clear c6; try clear c7; try clear c8; try clear c9; try clear c12; try clear c13; try clear c15; try clear c16; try clear c21; try clear c27; try clear c28; try clear c33; try clear c34; try clear c35; try clear c39; try clear c40; try clear c41; try clear c42; try clear c44; try clear c45; try clear c48; try clear c49; try clear c50; try clear c52; try clear c53; try clear c56; try clear c59; try clear c66; try clear c67; try clear c68; try clear c71; try clear c71b0; try clear c73; try clear c74; try clear c75; try clear c76; try clear c78; try clear c79; try clear c82; try clear c83; try clear c84; try clear c86; try clear c87; try clear hcz14_0; try clear hcz14_1; try clear hcz14_2; try clear hcz16_0; try clear hcz16_1; try clear hcz16_2; try clear hcz22_0; try clear hcz22_1; try clear hcz22_2; try clear hcz24_0; try clear hcz24_1; try clear hcz24_2; try clear hcz29_0; try clear hcz29_1; try clear hcz29_2; try clear hcz36_0; try clear hcz36_1; try clear hcz36_2; try clear hcz43_0; try clear hcz43_1; try clear hcz43_2; try clear hcz46_0; try clear hcz46_1; try clear hcz46_2; try clear hcz51_0; try clear hcz51_1; try clear hcz51_2; try clear hcz54_0; try clear hcz54_1; try clear hcz54_2; try clear hcz69_0; try clear hcz69_1; try clear hcz69_2; try clear hcz6_0; try clear hcz6_1; try clear hcz6_2; try clear hcz77_0; try clear hcz77_1; try clear hcz77_2; try clear hcz80_0; try clear hcz80_1; try clear hcz80_2; try clear hcz85_0; try clear hcz85_1; try clear hcz85_2; try clear hcz88_0; try clear hcz88_1; try clear hcz88_2; try clear hfz14_0; try clear hfz14_1; try clear hfz14_2; try clear hfz16_0; try clear hfz16_1; try clear hfz16_2; try clear hfz22_0; try clear hfz22_1; try clear hfz22_2; try clear hfz24_0; try clear hfz24_1; try clear hfz24_2; try clear hfz29_0; try clear hfz29_1; try clear hfz29_2; try clear hfz36_0; try clear hfz36_1; try clear hfz36_2; try clear hfz43_0; try clear hfz43_1; try clear hfz43_2; try clear hfz46_0; try clear hfz46_1; try clear hfz46_2; try clear hfz51_0; try clear hfz51_1; try clear hfz51_2; try clear hfz54_0; try clear hfz54_1; try clear hfz54_2; try clear hfz69_0; try clear hfz69_1; try clear hfz69_2; try clear hfz6_0; try clear hfz6_1; try clear hfz6_2; try clear hfz77_0; try clear hfz77_1; try clear hfz77_2; try clear hfz80_0; try clear hfz80_1; try clear hfz80_2; try clear hfz85_0; try clear hfz85_1; try clear hfz85_2; try clear hfz88_0; try clear hfz88_1; try clear hfz88_2; try clear p2
        obtain ⟨kq, x65_60, rfl, HA, HJ60, HO_222002, HO_228002, HO_235002, BK208, BK221, BK227, BK234, HB⟩ := hcut
        have hl228002_60 := (Kd.R_reads' HO_228002.out).1
        rw [hl228002_60] at HO_228002
        (try simp only [hl228002_60])
        (try simp only [hl228002_60] at BK208)
        (try simp only [hl228002_60] at BK221)
        (try simp only [hl228002_60] at BK227)
        (try simp only [hl228002_60] at BK234)
        (try simp only [hl228002_60] at HO_222002)
        (try simp only [hl228002_60] at HO_235002)
        rcases kq with _ | kj60
        · exact absurd HA.out (by simp [laws_FnExactDropClue.j1])
        have H := HA.out
        clear HA
        simp only [laws_FnExactDropClue.j1] at H
        by_cases c90 : x65_60 = true
        · subst c90
          have H1 : (none) = some r := by rw [if_pos rfl] at H; exact H
          clear H
          have H := H1
          clear H1
          exact absurd H (by simp)
        replace c90 := Bool.eq_false_iff.mpr c90
        subst c90
        have H1 : ((laws_markPuzzle.f kj60 t228 t229 t230 1).bind fun bt245 => ((laws_heldPuzzle.f kj60 t228 t229 bt245.2 1).bind fun t247 => (if t247 < 0 then (none) else (if t247 = bt245.1 then ((laws_toPuzzle.f kj60 a0_0 a0_1 l0_2).bind fun bt248 => ((impl_DropClue.f bt248.1 bt248.2.1 bt248.2.2 a1).bind fun bt253 => ((laws_eqPuzzle.f kj60 bt253.1 bt253.2.1 bt253.2.2.1 t215 t216 t217).bind fun t260 => (if t260 = true then (laws_FnExactDropClue.j2 kj60 bt245.1 (bt253.2.2.2 != t220) t228 t229 bt245.2) else (laws_FnExactDropClue.j2 kj60 bt245.1 true t228 t229 bt245.2))))) else (none))))) = some r := by rw [if_neg (show ¬ (false = true) by decide)] at H; exact H
        clear H
        have H := H1
        clear H1
        replace H := Option.bind_eq_some_iff.mp H
        obtain ⟨⟨t245, t246⟩, A910, H⟩ := H
        try dsimp only at H
        have A91 := As_ A910
        clear A910
        replace H := Option.bind_eq_some_iff.mp H
        obtain ⟨t247, A920, H⟩ := H
        try dsimp only at H
        have A92 := As_ A920
        clear A920
        by_cases c93 : t247 < 0
        · rw [if_pos c93] at H; exact absurd H (by simp)
        rw [if_neg c93] at H
        have c93b0 : decide (t247 < 0) = false := decide_eq_false c93
        clear c93
        by_cases c94 : t247 = t245
        case neg => rw [if_neg c94] at H; exact absurd H (by simp)
        rw [if_pos c94] at H
        have c94b0 : (t247 == t245) = true := beq_iff_eq.mpr c94
        have c94b1 : (t247 != t245) = false := bne_eq_false_iff_eq.mpr c94
        clear c94
        replace H := Option.bind_eq_some_iff.mp H
        obtain ⟨⟨t248, t249, t250⟩, A950, H⟩ := H
        try dsimp only at H
        have A95 := As_ A950
        clear A950
        replace H := Option.bind_eq_some_iff.mp H
        obtain ⟨⟨t253, t254, t255, t258⟩, A960, H⟩ := H
        try dsimp only at H
        have A96 := As_ A960
        clear A960
        have HC97 := As_ H
        clear H
        have hnb98 := NB234_208.out
        have hnc98 := NB208_234.out
        have hnb99 := NB234_221.out
        have hnc99 := NB221_234.out
        have hnb100 := NB234_227.out
        have hnc100 := NB227_234.out
        have hcz101_0 : wc.cell? ⟨gb234, 0, none⟩ = some (.int .i64 t228) := (blk_cell BK234.out 0).trans rfl
        have hcz101_1 : wc.cell? ⟨gb234, 1, none⟩ = some (.int .i64 t229) := (blk_cell BK234.out 1).trans rfl
        have hcz101_2 : wc.cell? ⟨gb234, 2, none⟩ = some (.slice Ao37 t230.length co37) := (blk_cell BK234.out 2).trans rfl
        have hfz101_0 := blk_frozen BK234.out 0
        have hfz101_1 := blk_frozen BK234.out 1
        have hfz101_2 := blk_frozen BK234.out 2
        go_upto_region 25 with (first | ((with_reducible refine gate_callee (f := 13) rfl ?_); refine goesL_ (some 68) rfl rfl Try.func13 (by kernel_rfl) rfl #[.agg #[.int .i64 t228, .int .i64 t229, .slice Ao37 t230.length co37], .int .i64 1] rfl (by (try simp only [List.map_toArray, List.map_cons, List.map_nil]); first | done | rfl | (simp only [List.length_drop, List.length_take]; rfl)) ?_; (with_reducible refine (laws_markPuzzle.calls kj60 t228 t229 (fun k_ => some k_ = (.slice Ao37 t230.length co37 : Value).ownBlock) (.slice Ao37 t230.length co37) t230 1 t245 t246 w _ ?side1 ?side2 A91.out).mono ?_); (case side1 => repeat (first | (with_reducible first | exact HB.out | apply below_alloc | apply pw_below_drewN | apply below_drew1 | refine below_setA ?_ (by assumption)) | exact HB.out)); (case side2 => exact Kd.R_tight rfl HO_235002.out); rintro e w102 ⟨rfl, hy0, hb, hkp⟩; refine ⟨_, rfl, ?_⟩; replace HO_222002 := As_ (Kd.R_mono (ok' := fun k_ => some k_ ≠ (.slice Ao30 t243.length co30 : Value).ownBlock ∧ some k_ ≠ (.slice Ao37 t230.length co37 : Value).ownBlock) (Kd.R_keptB (HO_222002.out) hkp (fun k_ hk_ hs_ => (hk_.2) hs_)) (fun k_ hk_ => ⟨hk_.1.1, hk_.1.2⟩)); replace HO_228002 := As_ (Kd.R_mono (ok' := fun k_ => some k_ ≠ (.slice Ao23 t217.length co23 : Value).ownBlock ∧ some k_ ≠ (.slice Ao37 t230.length co37 : Value).ownBlock) (Kd.R_keptB (HO_228002.out) hkp (fun k_ hk_ hs_ => (hk_.2) hs_)) (fun k_ hk_ => ⟨hk_.1.1, hk_.1.2⟩)); replace BK208 := As_ (blk_kept BK208.out hkp (fun hs_ => (fun e_ => (Kd.R_ne HO_235002.out BK208.out (by decide)) e_) hs_)); replace BK221 := As_ (blk_kept BK221.out hkp (fun hs_ => (fun e_ => (Kd.R_ne HO_235002.out BK221.out (by decide)) e_) hs_)); replace BK227 := As_ (blk_kept BK227.out hkp (fun hs_ => (fun e_ => (Kd.R_ne HO_235002.out BK227.out (by decide)) e_) hs_)); replace BK234 := As_ (blk_kept BK234.out hkp (fun hs_ => (fun e_ => (Kd.R_ne HO_235002.out BK234.out (by decide)) e_) hs_)); replace HO_235002 := As_ (Kd.R_reok rfl hy0 (fun k_ e_ => HO_235002.out.1 k_ e_)); replace HB := As_ (hb); (try clear hb); (try clear hkp); (try clear hy0); have hcz103_0 : w102.cell? ⟨gb234, 0, none⟩ = some (.int .i64 t228) := (blk_cell BK234.out 0).trans rfl; have hcz103_1 : w102.cell? ⟨gb234, 1, none⟩ = some (.int .i64 t229) := (blk_cell BK234.out 1).trans rfl; have hcz103_2 : w102.cell? ⟨gb234, 2, none⟩ = some (.slice Ao37 t230.length co37) := (blk_cell BK234.out 2).trans rfl; have hfz103_0 := blk_frozen BK234.out 0; have hfz103_1 := blk_frozen BK234.out 1; have hfz103_2 := blk_frozen BK234.out 2) | ((with_reducible refine gate_callee (f := 14) rfl ?_); refine goesL_ (some 71) rfl rfl Try.func14 (by kernel_rfl) rfl #[.agg #[.int .i64 t228, .int .i64 t229, .slice Ao37 t246.length co37], .int .i64 1] rfl (by (try simp only [List.map_toArray, List.map_cons, List.map_nil]); first | done | (rw [show t246.length = t230.length from (Kd.R_reads' HO_235002.out).1.symm] <;> rfl) | rfl | (simp only [List.length_drop, List.length_take]; rfl)) ?_; (with_reducible refine (laws_heldPuzzle.calls kj60 t228 t229 _ _ t246 1 t247 _ ?side1 ?side2 A92.out).mono ?_); (case side1 => repeat (first | exact (Kd.R_reads' HO_235002.out).2.2 | (with_reducible refine Kd.C_alloc ?_ _) | (with_reducible refine Kd.C_drewN ?_ _) | (with_reducible refine Kd.C_drew ?_))); (case side2 => rw [show t246.length = t230.length from (Kd.R_reads' HO_235002.out).1.symm]; exact (Kd.R_reads' HO_235002.out).2.1); rintro e w104 ⟨rfl, hb⟩; refine ⟨_, rfl, ?_⟩; replace HO_222002 := As_ (Kd.R_below (by (with_reducible repeat (first | apply Kd.R_alloc | apply Kd.R_drewN | apply Kd.R_drew)); exact HO_222002.out) hb); replace HO_228002 := As_ (Kd.R_below (by (with_reducible repeat (first | apply Kd.R_alloc | apply Kd.R_drewN | apply Kd.R_drew)); exact HO_228002.out) hb); replace HO_235002 := As_ (Kd.R_below (by (with_reducible repeat (first | apply Kd.R_alloc | apply Kd.R_drewN | apply Kd.R_drew)); exact HO_235002.out) hb); replace BK208 := As_ (blk_b hb BK208.out); replace BK221 := As_ (blk_b hb BK221.out); replace BK227 := As_ (blk_b hb BK227.out); replace BK234 := As_ (blk_b hb BK234.out); replace HB := As_ (below_step (by repeat (first | (with_reducible first | exact HB.out | apply below_alloc | apply pw_below_drewN | apply below_drew1 | refine below_setA ?_ (by assumption)) | exact HB.out)) hb); (try clear hb); have hnb105 := NB208_221.out; have hnc105 := NB221_208.out; have hnb106 := NB208_227.out; have hnc106 := NB227_208.out; have hcz107_0 : w104.cell? ⟨gb208, 0, none⟩ = some (.int .i64 a0_0) := (blk_cell BK208.out 0).trans rfl; have hcz107_1 : w104.cell? ⟨gb208, 1, none⟩ = some (.int .i64 a0_1) := (blk_cell BK208.out 1).trans rfl; have hcz107_2 : w104.cell? ⟨gb208, 2, none⟩ = some (.slice A0_2 l0_2.length c0_2) := (blk_cell BK208.out 2).trans rfl; have hfz107_0 := blk_frozen BK208.out 0; have hfz107_1 := blk_frozen BK208.out 1; have hfz107_2 := blk_frozen BK208.out 2) | ((with_reducible refine gate_callee (f := 9) rfl ?_); refine goesL_ (some 79) rfl rfl Try.func9 (by kernel_rfl) rfl #[.agg #[.int .i64 a0_0, .int .i64 a0_1, .slice A0_2 l0_2.length c0_2]] rfl (by (try simp only [List.map_toArray, List.map_cons, List.map_nil]); first | done | rfl | (simp only [List.length_drop, List.length_take]; rfl)) ?_; (with_reducible refine (laws_toPuzzle.calls kj60 a0_0 a0_1 _ _ l0_2 t248 t249 t250 _ ?side1 ?side2 A95.out).mono ?_); (case side1 => repeat (first | exact (Kd.C_below HR0_2.out HB.out) | (with_reducible refine Kd.C_alloc ?_ _) | (with_reducible refine Kd.C_drewN ?_ _) | (with_reducible refine Kd.C_drew ?_))); (case side2 => exact HC0_2.out); rintro e w108 ⟨v251, rfl, ho0, hb⟩; refine ⟨_, rfl, ?_⟩; have HO252 := As_ (Kd.R_lower (Kd.R_new' (Kd.R_new' (Kd.R_new' ho0 (Kd.R_lt (by (with_reducible repeat (first | apply Kd.R_alloc | apply Kd.R_drewN | apply Kd.R_drew)); exact HO_222002.out))) (Kd.R_lt (by (with_reducible repeat (first | apply Kd.R_alloc | apply Kd.R_drewN | apply Kd.R_drew)); exact HO_228002.out))) (Kd.R_lt (by (with_reducible repeat (first | apply Kd.R_alloc | apply Kd.R_drewN | apply Kd.R_drew)); exact HO_235002.out))) (below_size (by repeat (first | (with_reducible first | exact HB.out | apply below_alloc | apply pw_below_drewN | apply below_drew1 | refine below_setA ?_ (by assumption)) | exact HB.out)))); replace HO_222002 := As_ (Kd.R_elder' (by (with_reducible repeat (first | apply Kd.R_alloc | apply Kd.R_drewN | apply Kd.R_drew)); exact HO_222002.out) (Kd.R_base ho0) hb); replace HO_228002 := As_ (Kd.R_elder' (by (with_reducible repeat (first | apply Kd.R_alloc | apply Kd.R_drewN | apply Kd.R_drew)); exact HO_228002.out) (Kd.R_base ho0) hb); replace HO_235002 := As_ (Kd.R_elder' (by (with_reducible repeat (first | apply Kd.R_alloc | apply Kd.R_drewN | apply Kd.R_drew)); exact HO_235002.out) (Kd.R_base ho0) hb); replace BK208 := As_ (blk_b hb BK208.out); replace BK221 := As_ (blk_b hb BK221.out); replace BK227 := As_ (blk_b hb BK227.out); replace BK234 := As_ (blk_b hb BK234.out); replace HB := As_ (below_step (by repeat (first | (with_reducible first | exact HB.out | apply below_alloc | apply pw_below_drewN | apply below_drew1 | refine below_setA ?_ (by assumption)) | exact HB.out)) hb); (try clear hb); (try clear ho0); obtain ⟨Ao109, co109, eo109⟩ := Kd.R_slice HO252.out; subst eo109) | ((with_reducible refine gate_callee (f := 16) rfl ?_); refine goesL_ (some 81) rfl rfl Try.func16 (by kernel_rfl) rfl #[.agg #[.int .i64 t248, .int .i64 t249, .slice Ao109 t250.length co109], .int .i64 a1] rfl (by (try simp only [List.map_toArray, List.map_cons, List.map_nil]); first | done | rfl | (simp only [List.length_drop, List.length_take]; rfl)) ?_; (with_reducible refine (impl_DropClue.calls t248 t249 _ _ t250 a1 t253 t254 t255 t258 _ ?side1 ?side2 A96.out).mono ?_); (case side1 => repeat (first | exact (Kd.R_reads' HO252.out).2.2 | (with_reducible refine Kd.C_alloc ?_ _) | (with_reducible refine Kd.C_drewN ?_ _) | (with_reducible refine Kd.C_drew ?_))); (case side2 => exact (Kd.R_reads' HO252.out).2.1); rintro e w110 ⟨v256, rfl, ho0, hb⟩; refine ⟨_, rfl, ?_⟩; have HO257 := As_ (Kd.R_lower (Kd.R_new' (Kd.R_new' (Kd.R_new' (Kd.R_new' ho0 (Kd.R_lt (by (with_reducible repeat (first | apply Kd.R_alloc | apply Kd.R_drewN | apply Kd.R_drew)); exact HO_222002.out))) (Kd.R_lt (by (with_reducible repeat (first | apply Kd.R_alloc | apply Kd.R_drewN | apply Kd.R_drew)); exact HO_228002.out))) (Kd.R_lt (by (with_reducible repeat (first | apply Kd.R_alloc | apply Kd.R_drewN | apply Kd.R_drew)); exact HO_235002.out))) (Kd.R_lt (by (with_reducible repeat (first | apply Kd.R_alloc | apply Kd.R_drewN | apply Kd.R_drew)); exact HO252.out))) (below_size (by repeat (first | (with_reducible first | exact HB.out | apply below_alloc | apply pw_below_drewN | apply below_drew1 | refine below_setA ?_ (by assumption)) | exact HB.out)))); replace HO_222002 := As_ (Kd.R_elder' (by (with_reducible repeat (first | apply Kd.R_alloc | apply Kd.R_drewN | apply Kd.R_drew)); exact HO_222002.out) (Kd.R_base ho0) hb); replace HO_228002 := As_ (Kd.R_elder' (by (with_reducible repeat (first | apply Kd.R_alloc | apply Kd.R_drewN | apply Kd.R_drew)); exact HO_228002.out) (Kd.R_base ho0) hb); replace HO_235002 := As_ (Kd.R_elder' (by (with_reducible repeat (first | apply Kd.R_alloc | apply Kd.R_drewN | apply Kd.R_drew)); exact HO_235002.out) (Kd.R_base ho0) hb); replace HO252 := As_ (Kd.R_elder' (by (with_reducible repeat (first | apply Kd.R_alloc | apply Kd.R_drewN | apply Kd.R_drew)); exact HO252.out) (Kd.R_base ho0) hb); replace BK208 := As_ (blk_b hb BK208.out); replace BK221 := As_ (blk_b hb BK221.out); replace BK227 := As_ (blk_b hb BK227.out); replace BK234 := As_ (blk_b hb BK234.out); replace HB := As_ (below_step (by repeat (first | (with_reducible first | exact HB.out | apply below_alloc | apply pw_below_drewN | apply below_drew1 | refine below_setA ?_ (by assumption)) | exact HB.out)) hb); (try clear hb); (try clear ho0)) | ((with_reducible refine gate_dst (N := 14) rfl ?_); refine box_event ?hg (N := 14) ?hd (cs := #[.int .i64 0, .int .i64 0, .slice none 0 0]) (t := 30) ?hr ?_; (case hd => rfl); (case hg => rfl); (case hr => first | (go_simp; done) | (go_simp; rfl)); intro gb259 hg w111 hbox hb; have BK259 := As_ (hbox); have GW259 := As_ ((by rw [hg]; exact (below_size (by repeat (first | (with_reducible first | exact HB.out | apply below_alloc | apply pw_below_drewN | apply below_drew1 | refine below_setA ?_ (by assumption)) | exact HB.out))) : w.heap.size ≤ gb259)); have GE259 := As_ ((by rw [hg]; exact (below_size (by repeat (first | (with_reducible first | exact HB.out | apply below_alloc | apply pw_below_drewN | apply below_drew1 | refine below_setA ?_ (by assumption)) | exact HB.out))) : w.heap.size ≤ gb259)); have NB208_259 := As_ (ne_lt hg BK208.out); have NB259_208 := As_ (ne_gt hg BK208.out); have NB221_259 := As_ (ne_lt hg BK221.out); have NB259_221 := As_ (ne_gt hg BK221.out); have NB227_259 := As_ (ne_lt hg BK227.out); have NB259_227 := As_ (ne_gt hg BK227.out); have NB234_259 := As_ (ne_lt hg BK234.out); have NB259_234 := As_ (ne_gt hg BK234.out); replace HO_222002 := As_ (Kd.R_below (by (with_reducible repeat (first | apply Kd.R_alloc | apply Kd.R_drewN | apply Kd.R_drew)); exact HO_222002.out) hb); replace HO_228002 := As_ (Kd.R_below (by (with_reducible repeat (first | apply Kd.R_alloc | apply Kd.R_drewN | apply Kd.R_drew)); exact HO_228002.out) hb); replace HO_235002 := As_ (Kd.R_below (by (with_reducible repeat (first | apply Kd.R_alloc | apply Kd.R_drewN | apply Kd.R_drew)); exact HO_235002.out) hb); replace HO252 := As_ (Kd.R_below (by (with_reducible repeat (first | apply Kd.R_alloc | apply Kd.R_drewN | apply Kd.R_drew)); exact HO252.out) hb); replace HO257 := As_ (Kd.R_below (by (with_reducible repeat (first | apply Kd.R_alloc | apply Kd.R_drewN | apply Kd.R_drew)); exact HO257.out) hb); replace BK208 := As_ (blk_b hb BK208.out); replace BK221 := As_ (blk_b hb BK221.out); replace BK227 := As_ (blk_b hb BK227.out); replace BK234 := As_ (blk_b hb BK234.out); replace HB := As_ (below_step (by repeat (first | (with_reducible first | exact HB.out | apply below_alloc | apply pw_below_drewN | apply below_drew1 | refine below_setA ?_ (by assumption)) | exact HB.out)) hb); clear hb hbox hg; have hnb112 := NB259_208.out; have hnc112 := NB208_259.out; have hnb113 := NB259_221.out; have hnc113 := NB221_259.out; have hnb114 := NB259_227.out; have hnc114 := NB227_259.out; have hnb115 := NB259_234.out; have hnc115 := NB234_259.out; have hcz116_0 : w111.cell? ⟨gb259, 0, none⟩ = some (.int .i64 0) := (blk_cell BK259.out 0).trans rfl; have hcz116_1 : w111.cell? ⟨gb259, 1, none⟩ = some (.int .i64 0) := (blk_cell BK259.out 1).trans rfl; have hcz116_2 : w111.cell? ⟨gb259, 2, none⟩ = some (.slice none 0 0) := (blk_cell BK259.out 2).trans rfl; have hfz116_0 := blk_frozen BK259.out 0; have hfz116_1 := blk_frozen BK259.out 1; have hfz116_2 := blk_frozen BK259.out 2; obtain ⟨Ao117, co117, eo117⟩ := Kd.R_slice HO257.out; subst eo117))
        (try simp only [Act.put, List.setIfInBounds_toArray, List.set_cons_zero, List.set_cons_succ])
        go_cut [92] (fun v92 wc => ∃ (kq : Nat) (x92_96 : Bool), v92 = .bool x92_96 ∧ Aside0 (laws_FnExactDropClue.j2 kq t245 x92_96 t228 t229 t246 = some r) ∧ Aside0 (kq ≤ kj60) ∧ Aside0 (Kd.R k34 34 wc w.heap.size (fun k_ => some k_ ≠ ((.slice Ao30 t243.length co30) : Value).ownBlock ∧ some k_ ≠ ((.slice Ao37 t230.length co37) : Value).ownBlock ∧ some k_ ≠ ((.slice Ao117 t255.length co117) : Value).ownBlock) (.slice Ao23 t217.length co23) t217) ∧ Aside0 (Kd.R k34 34 wc w.heap.size (fun k_ => some k_ ≠ ((.slice Ao23 t217.length co23) : Value).ownBlock ∧ some k_ ≠ ((.slice Ao37 t230.length co37) : Value).ownBlock ∧ some k_ ≠ ((.slice Ao117 t255.length co117) : Value).ownBlock) (.slice Ao30 t243.length co30) t243) ∧ Aside0 (Kd.R k34 34 wc w.heap.size (fun k_ => some k_ ≠ ((.slice Ao23 t217.length co23) : Value).ownBlock ∧ some k_ ≠ ((.slice Ao30 t243.length co30) : Value).ownBlock ∧ some k_ ≠ ((.slice Ao117 t255.length co117) : Value).ownBlock) (.slice Ao37 t230.length co37) t246) ∧ Aside0 (Kd.R k34 34 wc w.heap.size (fun k_ => some k_ ≠ ((.slice Ao23 t217.length co23) : Value).ownBlock ∧ some k_ ≠ ((.slice Ao30 t243.length co30) : Value).ownBlock ∧ some k_ ≠ ((.slice Ao37 t230.length co37) : Value).ownBlock) (.slice Ao117 t255.length co117) t255) ∧ Aside0 (wc.heap[gb208]? = some (.cells #[.int .i64 a0_0, .int .i64 a0_1, (.slice A0_2 l0_2.length c0_2)] 24 (0, 0))) ∧ Aside0 (wc.heap[gb221]? = some (.cells #[.int .i64 t215, .int .i64 t216, (.slice Ao23 t217.length co23)] 30 (0, 0))) ∧ Aside0 (wc.heap[gb227]? = some (.cells #[.int .i64 t222, .int .i64 t223, (.slice Ao30 t243.length co30)] 30 (0, 0))) ∧ Aside0 (wc.heap[gb234]? = some (.cells #[.int .i64 t228, .int .i64 t229, (.slice Ao37 t230.length co37)] 30 (0, 0))) ∧ Aside0 (wc.heap[gb259]? = some (.cells #[.int .i64 t253, .int .i64 t254, (.slice Ao117 t255.length co117)] 30 (0, 0))) ∧ Aside0 (Below w.heap.size w wc))
        case first =>
          have H := HC97.out
          clear HC97
          replace H := Option.bind_eq_some_iff.mp H
          obtain ⟨t260, A1180, H⟩ := H
          try dsimp only at H
          have A118 := As_ A1180
          clear A1180
          by_cases c119 : t260 = true
          · subst c119
            have H1 : (laws_FnExactDropClue.j2 kj60 t245 (t258 != t220) t228 t229 t246) = some r := by rw [if_pos rfl] at H; exact H
            clear H
            have H := H1
            clear H1
            have H' := As_ H
            clear H
            have hnb120 := NB259_208.out
            have hnc120 := NB208_259.out
            have hnb121 := NB259_221.out
            have hnc121 := NB221_259.out
            have hnb122 := NB259_227.out
            have hnc122 := NB227_259.out
            have hnb123 := NB259_234.out
            have hnc123 := NB234_259.out
            have hcz124_0 : w111.cell? ⟨gb259, 0, none⟩ = some (.int .i64 0) := (blk_cell BK259.out 0).trans rfl
            have hcz124_1 : w111.cell? ⟨gb259, 1, none⟩ = some (.int .i64 0) := (blk_cell BK259.out 1).trans rfl
            have hcz124_2 : w111.cell? ⟨gb259, 2, none⟩ = some (.slice none 0 0) := (blk_cell BK259.out 2).trans rfl
            have hfz124_0 := blk_frozen BK259.out 0
            have hfz124_1 := blk_frozen BK259.out 1
            have hfz124_2 := blk_frozen BK259.out 2
            have hnb125 := NB221_208.out
            have hnc125 := NB208_221.out
            have hnb126 := NB221_227.out
            have hnc126 := NB227_221.out
            have hnb127 := NB221_234.out
            have hnc127 := NB234_221.out
            have hcz128_0 : w111.cell? ⟨gb221, 0, none⟩ = some (.int .i64 t215) := (blk_cell BK221.out 0).trans rfl
            have hcz128_1 : w111.cell? ⟨gb221, 1, none⟩ = some (.int .i64 t216) := (blk_cell BK221.out 1).trans rfl
            have hcz128_2 : w111.cell? ⟨gb221, 2, none⟩ = some (.slice Ao23 t217.length co23) := (blk_cell BK221.out 2).trans rfl
            have hfz128_0 := blk_frozen BK221.out 0
            have hfz128_1 := blk_frozen BK221.out 1
            have hfz128_2 := blk_frozen BK221.out 2
            go_wp2_with (first | ((with_reducible refine gate_callee (f := 12) rfl ?_); refine goesL_ (some 86) rfl rfl Try.func12 (by kernel_rfl) rfl #[.agg #[.int .i64 t253, .int .i64 t254, .slice Ao117 t255.length co117], .agg #[.int .i64 t215, .int .i64 t216, .slice Ao23 t217.length co23]] rfl (by (try simp only [List.map_toArray, List.map_cons, List.map_nil]); first | done | rfl | (simp only [List.length_drop, List.length_take]; rfl)) ?_; (with_reducible refine (laws_eqPuzzle.calls kj60 t253 t254 _ _ t255 t215 t216 _ _ t217 true _ ?side1 ?side2 ?side3 ?side4 A118.out).mono ?_); (case side1 => refine (Kd.R_reads' (e := 34) (base := w.heap.size) (ok := fun k_ => ((((True ∧ some k_ ≠ (.slice Ao23 t217.length co23 : Value).ownBlock) ∧ some k_ ≠ (.slice Ao30 t243.length co30 : Value).ownBlock) ∧ some k_ ≠ (.slice Ao37 t230.length co37 : Value).ownBlock) ∧ some k_ ≠ (.slice Ao109 t250.length co109 : Value).ownBlock)) (n := t255.length) (c := co117) ?_).2.2; exact (by (with_reducible repeat (first | apply Kd.R_alloc | apply Kd.R_drewN | apply Kd.R_drew)); exact (Kd.R_mono (Kd.R_far (p := ⟨gb259, 2, none⟩) (Kd.R_far (p := ⟨gb259, 1, none⟩) (Kd.R_far (p := ⟨gb259, 0, none⟩) (Kd.R_types HO257.out BK259.out (by decide)) (fun _ hk => hk.2) (.int .i64 t253)) (fun _ hk => hk.2) (.int .i64 t254)) (fun _ hk => hk.2) (.slice Ao117 t255.length co117)) (fun _ h_ => h_.1)))); (case side2 => exact (Kd.R_reads' HO257.out).2.1); (case side3 => refine (Kd.R_reads' (e := 34) (base := w.heap.size) (ok := fun k_ => (((some k_ ≠ (.slice Ao30 t243.length co30 : Value).ownBlock ∧ some k_ ≠ (.slice Ao37 t230.length co37 : Value).ownBlock) ∧ some k_ ≠ (.slice Ao109 t250.length co109 : Value).ownBlock) ∧ some k_ ≠ (.slice Ao117 t255.length co117 : Value).ownBlock)) (n := t217.length) (c := co23) ?_).2.2; exact (by (with_reducible repeat (first | apply Kd.R_alloc | apply Kd.R_drewN | apply Kd.R_drew)); exact (Kd.R_mono (Kd.R_far (p := ⟨gb259, 2, none⟩) (Kd.R_far (p := ⟨gb259, 1, none⟩) (Kd.R_far (p := ⟨gb259, 0, none⟩) (Kd.R_types HO_222002.out BK259.out (by decide)) (fun _ hk => hk.2) (.int .i64 t253)) (fun _ hk => hk.2) (.int .i64 t254)) (fun _ hk => hk.2) (.slice Ao117 t255.length co117)) (fun _ h_ => h_.1)))); (case side4 => exact (Kd.R_reads' HO_222002.out).2.1); rintro e w129 ⟨rfl, hb⟩; refine ⟨_, rfl, ?_⟩; replace HO_222002 := As_ (Kd.R_below (by (with_reducible repeat (first | apply Kd.R_alloc | apply Kd.R_drewN | apply Kd.R_drew)); exact (Kd.R_mono (Kd.R_far (p := ⟨gb259, 2, none⟩) (Kd.R_far (p := ⟨gb259, 1, none⟩) (Kd.R_far (p := ⟨gb259, 0, none⟩) (Kd.R_types HO_222002.out BK259.out (by decide)) (fun _ hk => hk.2) (.int .i64 t253)) (fun _ hk => hk.2) (.int .i64 t254)) (fun _ hk => hk.2) (.slice Ao117 t255.length co117)) (fun _ h_ => h_.1))) hb); replace HO_228002 := As_ (Kd.R_below (by (with_reducible repeat (first | apply Kd.R_alloc | apply Kd.R_drewN | apply Kd.R_drew)); exact (Kd.R_mono (Kd.R_far (p := ⟨gb259, 2, none⟩) (Kd.R_far (p := ⟨gb259, 1, none⟩) (Kd.R_far (p := ⟨gb259, 0, none⟩) (Kd.R_types HO_228002.out BK259.out (by decide)) (fun _ hk => hk.2) (.int .i64 t253)) (fun _ hk => hk.2) (.int .i64 t254)) (fun _ hk => hk.2) (.slice Ao117 t255.length co117)) (fun _ h_ => h_.1))) hb); replace HO_235002 := As_ (Kd.R_below (by (with_reducible repeat (first | apply Kd.R_alloc | apply Kd.R_drewN | apply Kd.R_drew)); exact (Kd.R_mono (Kd.R_far (p := ⟨gb259, 2, none⟩) (Kd.R_far (p := ⟨gb259, 1, none⟩) (Kd.R_far (p := ⟨gb259, 0, none⟩) (Kd.R_types HO_235002.out BK259.out (by decide)) (fun _ hk => hk.2) (.int .i64 t253)) (fun _ hk => hk.2) (.int .i64 t254)) (fun _ hk => hk.2) (.slice Ao117 t255.length co117)) (fun _ h_ => h_.1))) hb); replace HO252 := As_ (Kd.R_below (by (with_reducible repeat (first | apply Kd.R_alloc | apply Kd.R_drewN | apply Kd.R_drew)); exact (Kd.R_mono (Kd.R_far (p := ⟨gb259, 2, none⟩) (Kd.R_far (p := ⟨gb259, 1, none⟩) (Kd.R_far (p := ⟨gb259, 0, none⟩) (Kd.R_types HO252.out BK259.out (by decide)) (fun _ hk => hk.2) (.int .i64 t253)) (fun _ hk => hk.2) (.int .i64 t254)) (fun _ hk => hk.2) (.slice Ao117 t255.length co117)) (fun _ h_ => h_.1))) hb); replace HO257 := As_ (Kd.R_below (by (with_reducible repeat (first | apply Kd.R_alloc | apply Kd.R_drewN | apply Kd.R_drew)); exact (Kd.R_mono (Kd.R_far (p := ⟨gb259, 2, none⟩) (Kd.R_far (p := ⟨gb259, 1, none⟩) (Kd.R_far (p := ⟨gb259, 0, none⟩) (Kd.R_types HO257.out BK259.out (by decide)) (fun _ hk => hk.2) (.int .i64 t253)) (fun _ hk => hk.2) (.int .i64 t254)) (fun _ hk => hk.2) (.slice Ao117 t255.length co117)) (fun _ h_ => h_.1))) hb); replace BK208 := As_ (blk_below (g := gb208) (o := .cells #[.int .i64 a0_0, .int .i64 a0_1, .slice A0_2 l0_2.length c0_2] 24 (0, 0)) (by (with_reducible repeat (first | refine blk_drewN ?_ _ | refine blk_drew ?_ | refine blk_alloc ?_ _)); refine blk_far ?_ NB208_259.out _; refine blk_far ?_ NB208_259.out _; refine blk_far ?_ NB208_259.out _; (with_reducible repeat (first | refine blk_drewN ?_ _ | refine blk_drew ?_ | refine blk_alloc ?_ _)); exact BK208.out) hb); replace BK221 := As_ (blk_below (g := gb221) (o := .cells #[.int .i64 t215, .int .i64 t216, .slice Ao23 t217.length co23] 30 (0, 0)) (by (with_reducible repeat (first | refine blk_drewN ?_ _ | refine blk_drew ?_ | refine blk_alloc ?_ _)); refine blk_far ?_ NB221_259.out _; refine blk_far ?_ NB221_259.out _; refine blk_far ?_ NB221_259.out _; (with_reducible repeat (first | refine blk_drewN ?_ _ | refine blk_drew ?_ | refine blk_alloc ?_ _)); exact BK221.out) hb); replace BK227 := As_ (blk_below (g := gb227) (o := .cells #[.int .i64 t222, .int .i64 t223, .slice Ao30 t243.length co30] 30 (0, 0)) (by (with_reducible repeat (first | refine blk_drewN ?_ _ | refine blk_drew ?_ | refine blk_alloc ?_ _)); refine blk_far ?_ NB227_259.out _; refine blk_far ?_ NB227_259.out _; refine blk_far ?_ NB227_259.out _; (with_reducible repeat (first | refine blk_drewN ?_ _ | refine blk_drew ?_ | refine blk_alloc ?_ _)); exact BK227.out) hb); replace BK234 := As_ (blk_below (g := gb234) (o := .cells #[.int .i64 t228, .int .i64 t229, .slice Ao37 t230.length co37] 30 (0, 0)) (by (with_reducible repeat (first | refine blk_drewN ?_ _ | refine blk_drew ?_ | refine blk_alloc ?_ _)); refine blk_far ?_ NB234_259.out _; refine blk_far ?_ NB234_259.out _; refine blk_far ?_ NB234_259.out _; (with_reducible repeat (first | refine blk_drewN ?_ _ | refine blk_drew ?_ | refine blk_alloc ?_ _)); exact BK234.out) hb); replace BK259 := As_ (blk_below (g := gb259) (o := .cells #[.int .i64 t253, .int .i64 t254, .slice Ao117 t255.length co117] 30 (0, 0)) (by (with_reducible repeat (first | refine blk_drewN ?_ _ | refine blk_drew ?_ | refine blk_alloc ?_ _)); refine blk_put (cs := #[.int .i64 t253, .int .i64 t254, .slice none 0 0]) ?_ 2 _ rfl; refine blk_put (cs := #[.int .i64 t253, .int .i64 0, .slice none 0 0]) ?_ 1 _ rfl; refine blk_put (cs := #[.int .i64 0, .int .i64 0, .slice none 0 0]) ?_ 0 _ rfl; (with_reducible repeat (first | refine blk_drewN ?_ _ | refine blk_drew ?_ | refine blk_alloc ?_ _)); exact BK259.out) hb); replace HB := As_ (below_step (by repeat (first | (with_reducible first | exact HB.out | apply below_alloc | apply pw_below_drewN | apply below_drew1 | refine below_setA ?_ (by assumption)) | exact HB.out)) hb); (try clear hb)))
            go_meet
            case rel => exact ⟨_, ((t258 != t220)), (by first | rfl | (simp; done) | (simp [*]; done)), H', ⟨by have := HJ11.out; have := HJ60.out; first | omega | exact Nat.le_refl _⟩, ⟨by (try simp only [hl228002_60]); (with_reducible repeat (first | apply Kd.R_alloc | apply Kd.R_drewN | apply Kd.R_drew)); exact Kd.R_mono HO_222002.out (fun _ hk => ⟨hk.1.1.1, ⟨hk.1.1.2, hk.2⟩⟩)⟩, ⟨by (try simp only [hl228002_60]); (with_reducible repeat (first | apply Kd.R_alloc | apply Kd.R_drewN | apply Kd.R_drew)); exact Kd.R_mono HO_228002.out (fun _ hk => ⟨hk.1.1.1, ⟨hk.1.1.2, hk.2⟩⟩)⟩, ⟨by (try simp only [hl228002_60]); (with_reducible repeat (first | apply Kd.R_alloc | apply Kd.R_drewN | apply Kd.R_drew)); exact Kd.R_mono HO_235002.out (fun _ hk => ⟨hk.1.1.1, ⟨hk.1.1.2, hk.2⟩⟩)⟩, ⟨by (try simp only [hl228002_60]); (with_reducible repeat (first | apply Kd.R_alloc | apply Kd.R_drewN | apply Kd.R_drew)); exact Kd.R_mono HO257.out (fun _ hk => ⟨hk.1.1.1.2, ⟨hk.1.1.2, hk.1.2⟩⟩)⟩, ⟨by (try simp only [hl228002_60]); (with_reducible repeat (first | refine blk_drewN ?_ _ | refine blk_drew ?_ | refine blk_alloc ?_ _)); exact BK208.out⟩, ⟨by (try simp only [hl228002_60]); (with_reducible repeat (first | refine blk_drewN ?_ _ | refine blk_drew ?_ | refine blk_alloc ?_ _)); exact BK221.out⟩, ⟨by (try simp only [hl228002_60]); (with_reducible repeat (first | refine blk_drewN ?_ _ | refine blk_drew ?_ | refine blk_alloc ?_ _)); exact BK227.out⟩, ⟨by (try simp only [hl228002_60]); (with_reducible repeat (first | refine blk_drewN ?_ _ | refine blk_drew ?_ | refine blk_alloc ?_ _)); exact BK234.out⟩, ⟨by (try simp only [hl228002_60]); (with_reducible repeat (first | refine blk_drewN ?_ _ | refine blk_drew ?_ | refine blk_alloc ?_ _)); exact BK259.out⟩, ⟨by repeat (first | (with_reducible first | exact HB.out | apply below_alloc | apply pw_below_drewN | apply below_drew1 | refine below_setA ?_ (by assumption)) | exact HB.out)⟩⟩
          · replace c119 := Bool.eq_false_iff.mpr c119
            subst c119
            have H1 : (laws_FnExactDropClue.j2 kj60 t245 true t228 t229 t246) = some r := by rw [if_neg (show ¬ (false = true) by decide)] at H; exact H
            clear H
            have H := H1
            clear H1
            have H' := As_ H
            clear H
            have hnb130 := NB259_208.out
            have hnc130 := NB208_259.out
            have hnb131 := NB259_221.out
            have hnc131 := NB221_259.out
            have hnb132 := NB259_227.out
            have hnc132 := NB227_259.out
            have hnb133 := NB259_234.out
            have hnc133 := NB234_259.out
            have hcz134_0 : w111.cell? ⟨gb259, 0, none⟩ = some (.int .i64 0) := (blk_cell BK259.out 0).trans rfl
            have hcz134_1 : w111.cell? ⟨gb259, 1, none⟩ = some (.int .i64 0) := (blk_cell BK259.out 1).trans rfl
            have hcz134_2 : w111.cell? ⟨gb259, 2, none⟩ = some (.slice none 0 0) := (blk_cell BK259.out 2).trans rfl
            have hfz134_0 := blk_frozen BK259.out 0
            have hfz134_1 := blk_frozen BK259.out 1
            have hfz134_2 := blk_frozen BK259.out 2
            have hnb135 := NB221_208.out
            have hnc135 := NB208_221.out
            have hnb136 := NB221_227.out
            have hnc136 := NB227_221.out
            have hnb137 := NB221_234.out
            have hnc137 := NB234_221.out
            have hcz138_0 : w111.cell? ⟨gb221, 0, none⟩ = some (.int .i64 t215) := (blk_cell BK221.out 0).trans rfl
            have hcz138_1 : w111.cell? ⟨gb221, 1, none⟩ = some (.int .i64 t216) := (blk_cell BK221.out 1).trans rfl
            have hcz138_2 : w111.cell? ⟨gb221, 2, none⟩ = some (.slice Ao23 t217.length co23) := (blk_cell BK221.out 2).trans rfl
            have hfz138_0 := blk_frozen BK221.out 0
            have hfz138_1 := blk_frozen BK221.out 1
            have hfz138_2 := blk_frozen BK221.out 2
            go_wp2_with (first | ((with_reducible refine gate_callee (f := 12) rfl ?_); refine goesL_ (some 86) rfl rfl Try.func12 (by kernel_rfl) rfl #[.agg #[.int .i64 t253, .int .i64 t254, .slice Ao117 t255.length co117], .agg #[.int .i64 t215, .int .i64 t216, .slice Ao23 t217.length co23]] rfl (by (try simp only [List.map_toArray, List.map_cons, List.map_nil]); first | done | rfl | (simp only [List.length_drop, List.length_take]; rfl)) ?_; (with_reducible refine (laws_eqPuzzle.calls kj60 t253 t254 _ _ t255 t215 t216 _ _ t217 false _ ?side1 ?side2 ?side3 ?side4 A118.out).mono ?_); (case side1 => refine (Kd.R_reads' (e := 34) (base := w.heap.size) (ok := fun k_ => ((((True ∧ some k_ ≠ (.slice Ao23 t217.length co23 : Value).ownBlock) ∧ some k_ ≠ (.slice Ao30 t243.length co30 : Value).ownBlock) ∧ some k_ ≠ (.slice Ao37 t230.length co37 : Value).ownBlock) ∧ some k_ ≠ (.slice Ao109 t250.length co109 : Value).ownBlock)) (n := t255.length) (c := co117) ?_).2.2; exact (by (with_reducible repeat (first | apply Kd.R_alloc | apply Kd.R_drewN | apply Kd.R_drew)); exact (Kd.R_mono (Kd.R_far (p := ⟨gb259, 2, none⟩) (Kd.R_far (p := ⟨gb259, 1, none⟩) (Kd.R_far (p := ⟨gb259, 0, none⟩) (Kd.R_types HO257.out BK259.out (by decide)) (fun _ hk => hk.2) (.int .i64 t253)) (fun _ hk => hk.2) (.int .i64 t254)) (fun _ hk => hk.2) (.slice Ao117 t255.length co117)) (fun _ h_ => h_.1)))); (case side2 => exact (Kd.R_reads' HO257.out).2.1); (case side3 => refine (Kd.R_reads' (e := 34) (base := w.heap.size) (ok := fun k_ => (((some k_ ≠ (.slice Ao30 t243.length co30 : Value).ownBlock ∧ some k_ ≠ (.slice Ao37 t230.length co37 : Value).ownBlock) ∧ some k_ ≠ (.slice Ao109 t250.length co109 : Value).ownBlock) ∧ some k_ ≠ (.slice Ao117 t255.length co117 : Value).ownBlock)) (n := t217.length) (c := co23) ?_).2.2; exact (by (with_reducible repeat (first | apply Kd.R_alloc | apply Kd.R_drewN | apply Kd.R_drew)); exact (Kd.R_mono (Kd.R_far (p := ⟨gb259, 2, none⟩) (Kd.R_far (p := ⟨gb259, 1, none⟩) (Kd.R_far (p := ⟨gb259, 0, none⟩) (Kd.R_types HO_222002.out BK259.out (by decide)) (fun _ hk => hk.2) (.int .i64 t253)) (fun _ hk => hk.2) (.int .i64 t254)) (fun _ hk => hk.2) (.slice Ao117 t255.length co117)) (fun _ h_ => h_.1)))); (case side4 => exact (Kd.R_reads' HO_222002.out).2.1); rintro e w139 ⟨rfl, hb⟩; refine ⟨_, rfl, ?_⟩; replace HO_222002 := As_ (Kd.R_below (by (with_reducible repeat (first | apply Kd.R_alloc | apply Kd.R_drewN | apply Kd.R_drew)); exact (Kd.R_mono (Kd.R_far (p := ⟨gb259, 2, none⟩) (Kd.R_far (p := ⟨gb259, 1, none⟩) (Kd.R_far (p := ⟨gb259, 0, none⟩) (Kd.R_types HO_222002.out BK259.out (by decide)) (fun _ hk => hk.2) (.int .i64 t253)) (fun _ hk => hk.2) (.int .i64 t254)) (fun _ hk => hk.2) (.slice Ao117 t255.length co117)) (fun _ h_ => h_.1))) hb); replace HO_228002 := As_ (Kd.R_below (by (with_reducible repeat (first | apply Kd.R_alloc | apply Kd.R_drewN | apply Kd.R_drew)); exact (Kd.R_mono (Kd.R_far (p := ⟨gb259, 2, none⟩) (Kd.R_far (p := ⟨gb259, 1, none⟩) (Kd.R_far (p := ⟨gb259, 0, none⟩) (Kd.R_types HO_228002.out BK259.out (by decide)) (fun _ hk => hk.2) (.int .i64 t253)) (fun _ hk => hk.2) (.int .i64 t254)) (fun _ hk => hk.2) (.slice Ao117 t255.length co117)) (fun _ h_ => h_.1))) hb); replace HO_235002 := As_ (Kd.R_below (by (with_reducible repeat (first | apply Kd.R_alloc | apply Kd.R_drewN | apply Kd.R_drew)); exact (Kd.R_mono (Kd.R_far (p := ⟨gb259, 2, none⟩) (Kd.R_far (p := ⟨gb259, 1, none⟩) (Kd.R_far (p := ⟨gb259, 0, none⟩) (Kd.R_types HO_235002.out BK259.out (by decide)) (fun _ hk => hk.2) (.int .i64 t253)) (fun _ hk => hk.2) (.int .i64 t254)) (fun _ hk => hk.2) (.slice Ao117 t255.length co117)) (fun _ h_ => h_.1))) hb); replace HO252 := As_ (Kd.R_below (by (with_reducible repeat (first | apply Kd.R_alloc | apply Kd.R_drewN | apply Kd.R_drew)); exact (Kd.R_mono (Kd.R_far (p := ⟨gb259, 2, none⟩) (Kd.R_far (p := ⟨gb259, 1, none⟩) (Kd.R_far (p := ⟨gb259, 0, none⟩) (Kd.R_types HO252.out BK259.out (by decide)) (fun _ hk => hk.2) (.int .i64 t253)) (fun _ hk => hk.2) (.int .i64 t254)) (fun _ hk => hk.2) (.slice Ao117 t255.length co117)) (fun _ h_ => h_.1))) hb); replace HO257 := As_ (Kd.R_below (by (with_reducible repeat (first | apply Kd.R_alloc | apply Kd.R_drewN | apply Kd.R_drew)); exact (Kd.R_mono (Kd.R_far (p := ⟨gb259, 2, none⟩) (Kd.R_far (p := ⟨gb259, 1, none⟩) (Kd.R_far (p := ⟨gb259, 0, none⟩) (Kd.R_types HO257.out BK259.out (by decide)) (fun _ hk => hk.2) (.int .i64 t253)) (fun _ hk => hk.2) (.int .i64 t254)) (fun _ hk => hk.2) (.slice Ao117 t255.length co117)) (fun _ h_ => h_.1))) hb); replace BK208 := As_ (blk_below (g := gb208) (o := .cells #[.int .i64 a0_0, .int .i64 a0_1, .slice A0_2 l0_2.length c0_2] 24 (0, 0)) (by (with_reducible repeat (first | refine blk_drewN ?_ _ | refine blk_drew ?_ | refine blk_alloc ?_ _)); refine blk_far ?_ NB208_259.out _; refine blk_far ?_ NB208_259.out _; refine blk_far ?_ NB208_259.out _; (with_reducible repeat (first | refine blk_drewN ?_ _ | refine blk_drew ?_ | refine blk_alloc ?_ _)); exact BK208.out) hb); replace BK221 := As_ (blk_below (g := gb221) (o := .cells #[.int .i64 t215, .int .i64 t216, .slice Ao23 t217.length co23] 30 (0, 0)) (by (with_reducible repeat (first | refine blk_drewN ?_ _ | refine blk_drew ?_ | refine blk_alloc ?_ _)); refine blk_far ?_ NB221_259.out _; refine blk_far ?_ NB221_259.out _; refine blk_far ?_ NB221_259.out _; (with_reducible repeat (first | refine blk_drewN ?_ _ | refine blk_drew ?_ | refine blk_alloc ?_ _)); exact BK221.out) hb); replace BK227 := As_ (blk_below (g := gb227) (o := .cells #[.int .i64 t222, .int .i64 t223, .slice Ao30 t243.length co30] 30 (0, 0)) (by (with_reducible repeat (first | refine blk_drewN ?_ _ | refine blk_drew ?_ | refine blk_alloc ?_ _)); refine blk_far ?_ NB227_259.out _; refine blk_far ?_ NB227_259.out _; refine blk_far ?_ NB227_259.out _; (with_reducible repeat (first | refine blk_drewN ?_ _ | refine blk_drew ?_ | refine blk_alloc ?_ _)); exact BK227.out) hb); replace BK234 := As_ (blk_below (g := gb234) (o := .cells #[.int .i64 t228, .int .i64 t229, .slice Ao37 t230.length co37] 30 (0, 0)) (by (with_reducible repeat (first | refine blk_drewN ?_ _ | refine blk_drew ?_ | refine blk_alloc ?_ _)); refine blk_far ?_ NB234_259.out _; refine blk_far ?_ NB234_259.out _; refine blk_far ?_ NB234_259.out _; (with_reducible repeat (first | refine blk_drewN ?_ _ | refine blk_drew ?_ | refine blk_alloc ?_ _)); exact BK234.out) hb); replace BK259 := As_ (blk_below (g := gb259) (o := .cells #[.int .i64 t253, .int .i64 t254, .slice Ao117 t255.length co117] 30 (0, 0)) (by (with_reducible repeat (first | refine blk_drewN ?_ _ | refine blk_drew ?_ | refine blk_alloc ?_ _)); refine blk_put (cs := #[.int .i64 t253, .int .i64 t254, .slice none 0 0]) ?_ 2 _ rfl; refine blk_put (cs := #[.int .i64 t253, .int .i64 0, .slice none 0 0]) ?_ 1 _ rfl; refine blk_put (cs := #[.int .i64 0, .int .i64 0, .slice none 0 0]) ?_ 0 _ rfl; (with_reducible repeat (first | refine blk_drewN ?_ _ | refine blk_drew ?_ | refine blk_alloc ?_ _)); exact BK259.out) hb); replace HB := As_ (below_step (by repeat (first | (with_reducible first | exact HB.out | apply below_alloc | apply pw_below_drewN | apply below_drew1 | refine below_setA ?_ (by assumption)) | exact HB.out)) hb); (try clear hb)))
            go_meet
            case rel => exact ⟨_, (true), (by first | rfl | (simp; done) | (simp [*]; done)), H', ⟨by have := HJ11.out; have := HJ60.out; first | omega | exact Nat.le_refl _⟩, ⟨by (try simp only [hl228002_60]); (with_reducible repeat (first | apply Kd.R_alloc | apply Kd.R_drewN | apply Kd.R_drew)); exact Kd.R_mono HO_222002.out (fun _ hk => ⟨hk.1.1.1, ⟨hk.1.1.2, hk.2⟩⟩)⟩, ⟨by (try simp only [hl228002_60]); (with_reducible repeat (first | apply Kd.R_alloc | apply Kd.R_drewN | apply Kd.R_drew)); exact Kd.R_mono HO_228002.out (fun _ hk => ⟨hk.1.1.1, ⟨hk.1.1.2, hk.2⟩⟩)⟩, ⟨by (try simp only [hl228002_60]); (with_reducible repeat (first | apply Kd.R_alloc | apply Kd.R_drewN | apply Kd.R_drew)); exact Kd.R_mono HO_235002.out (fun _ hk => ⟨hk.1.1.1, ⟨hk.1.1.2, hk.2⟩⟩)⟩, ⟨by (try simp only [hl228002_60]); (with_reducible repeat (first | apply Kd.R_alloc | apply Kd.R_drewN | apply Kd.R_drew)); exact Kd.R_mono HO257.out (fun _ hk => ⟨hk.1.1.1.2, ⟨hk.1.1.2, hk.1.2⟩⟩)⟩, ⟨by (try simp only [hl228002_60]); (with_reducible repeat (first | refine blk_drewN ?_ _ | refine blk_drew ?_ | refine blk_alloc ?_ _)); exact BK208.out⟩, ⟨by (try simp only [hl228002_60]); (with_reducible repeat (first | refine blk_drewN ?_ _ | refine blk_drew ?_ | refine blk_alloc ?_ _)); exact BK221.out⟩, ⟨by (try simp only [hl228002_60]); (with_reducible repeat (first | refine blk_drewN ?_ _ | refine blk_drew ?_ | refine blk_alloc ?_ _)); exact BK227.out⟩, ⟨by (try simp only [hl228002_60]); (with_reducible repeat (first | refine blk_drewN ?_ _ | refine blk_drew ?_ | refine blk_alloc ?_ _)); exact BK234.out⟩, ⟨by (try simp only [hl228002_60]); (with_reducible repeat (first | refine blk_drewN ?_ _ | refine blk_drew ?_ | refine blk_alloc ?_ _)); exact BK259.out⟩, ⟨by repeat (first | (with_reducible first | exact HB.out | apply below_alloc | apply pw_below_drewN | apply below_drew1 | refine below_setA ?_ (by assumption)) | exact HB.out)⟩⟩
        case rest =>
          clear HC97
          try clear c1; try clear c2; try clear p2; try clear c3; try clear c4; try clear c4b0; try clear c5; try clear c6; try clear c7; try clear c8; try clear c9; try clear c10; try clear c11; try clear c12; try clear c13; try clear c14; try clear c15; try clear c16; try clear c21; try clear c27; try clear c28; try clear c33; try clear c34; try clear c35; try clear c39; try clear c40; try clear c41; try clear c42; try clear c44; try clear c45; try clear c48; try clear c49; try clear c50; try clear c52; try clear c53; try clear c56; try clear c59; try clear c66; try clear c67; try clear c68; try clear c71; try clear c71b0; try clear c73; try clear c74; try clear c75; try clear c76; try clear c78; try clear c79; try clear c82; try clear c83; try clear c84; try clear c86; try clear c87; try clear c90; try clear c93; try clear c93b0; try clear c94; try clear c94b0; try clear c94b1; try clear c98; try clear c99; try clear c100; try clear c105; try clear c106; try clear c112; try clear c113; try clear c114; try clear c115; try clear c119; try clear c120; try clear c121; try clear c122; try clear c123; try clear c125; try clear c126; try clear c127; try clear c130; try clear c131; try clear c132; try clear c133; try clear c135; try clear c136; try clear c137; try clear hcz101_0; try clear hcz101_1; try clear hcz101_2; try clear hcz103_0; try clear hcz103_1; try clear hcz103_2; try clear hcz107_0; try clear hcz107_1; try clear hcz107_2; try clear hcz116_0; try clear hcz116_1; try clear hcz116_2; try clear hcz124_0; try clear hcz124_1; try clear hcz124_2; try clear hcz128_0; try clear hcz128_1; try clear hcz128_2; try clear hcz134_0; try clear hcz134_1; try clear hcz134_2; try clear hcz138_0; try clear hcz138_1; try clear hcz138_2; try clear hcz14_0; try clear hcz14_1; try clear hcz14_2; try clear hcz16_0; try clear hcz16_1; try clear hcz16_2; try clear hcz22_0; try clear hcz22_1; try clear hcz22_2; try clear hcz24_0; try clear hcz24_1; try clear hcz24_2; try clear hcz29_0; try clear hcz29_1; try clear hcz29_2; try clear hcz36_0; try clear hcz36_1; try clear hcz36_2; try clear hcz43_0; try clear hcz43_1; try clear hcz43_2; try clear hcz46_0; try clear hcz46_1; try clear hcz46_2; try clear hcz51_0; try clear hcz51_1; try clear hcz51_2; try clear hcz54_0; try clear hcz54_1; try clear hcz54_2; try clear hcz69_0; try clear hcz69_1; try clear hcz69_2; try clear hcz6_0; try clear hcz6_1; try clear hcz6_2; try clear hcz77_0; try clear hcz77_1; try clear hcz77_2; try clear hcz80_0; try clear hcz80_1; try clear hcz80_2; try clear hcz85_0; try clear hcz85_1; try clear hcz85_2; try clear hcz88_0; try clear hcz88_1; try clear hcz88_2; try clear hfz101_0; try clear hfz101_1; try clear hfz101_2; try clear hfz103_0; try clear hfz103_1; try clear hfz103_2; try clear hfz107_0; try clear hfz107_1; try clear hfz107_2; try clear hfz116_0; try clear hfz116_1; try clear hfz116_2; try clear hfz124_0; try clear hfz124_1; try clear hfz124_2; try clear hfz128_0; try clear hfz128_1; try clear hfz128_2; try clear hfz134_0; try clear hfz134_1; try clear hfz134_2; try clear hfz138_0; try clear hfz138_1; try clear hfz138_2; try clear hfz14_0; try clear hfz14_1; try clear hfz14_2; try clear hfz16_0; try clear hfz16_1; try clear hfz16_2; try clear hfz22_0; try clear hfz22_1; try clear hfz22_2; try clear hfz24_0; try clear hfz24_1; try clear hfz24_2; try clear hfz29_0; try clear hfz29_1; try clear hfz29_2; try clear hfz36_0; try clear hfz36_1; try clear hfz36_2; try clear hfz43_0; try clear hfz43_1; try clear hfz43_2; try clear hfz46_0; try clear hfz46_1; try clear hfz46_2; try clear hfz51_0; try clear hfz51_1; try clear hfz51_2; try clear hfz54_0; try clear hfz54_1; try clear hfz54_2; try clear hfz69_0; try clear hfz69_1; try clear hfz69_2; try clear hfz6_0; try clear hfz6_1; try clear hfz6_2; try clear hfz77_0; try clear hfz77_1; try clear hfz77_2; try clear hfz80_0; try clear hfz80_1; try clear hfz80_2; try clear hfz85_0; try clear hfz85_1; try clear hfz85_2; try clear hfz88_0; try clear hfz88_1; try clear hfz88_2; try clear p2
          obtain ⟨kq, x92_96, rfl, HA, HJ96, HO_222002, HO_228002, HO_235002, HO_260002, BK208, BK221, BK227, BK234, BK259, HB⟩ := hcut
          have hl235002_96 := (Kd.R_reads' HO_235002.out).1
          rw [hl235002_96] at HO_235002
          (try simp only [hl235002_96])
          (try simp only [hl235002_96] at BK208)
          (try simp only [hl235002_96] at BK221)
          (try simp only [hl235002_96] at BK227)
          (try simp only [hl235002_96] at BK234)
          (try simp only [hl235002_96] at BK259)
          (try simp only [hl235002_96] at HO_222002)
          (try simp only [hl235002_96] at HO_228002)
          (try simp only [hl235002_96] at HO_260002)
          rcases kq with _ | kj96
          · exact absurd HA.out (by simp [laws_FnExactDropClue.j2])
          have H := HA.out
          clear HA
          simp only [laws_FnExactDropClue.j2] at H
          by_cases c140 : x92_96 = true
          · subst c140
            have H1 : (none) = some r := by rw [if_pos rfl] at H; exact H
            clear H
            have H := H1
            clear H1
            exact absurd H (by simp)
          replace c140 := Bool.eq_false_iff.mpr c140
          subst c140
          have H1 : ((laws_heldPuzzle.f kj96 t228 t229 t246 1).bind fun t261 => (if t261 < 0 then (none) else (if t261 = t245 then (some true) else (none)))) = some r := by rw [if_neg (show ¬ (false = true) by decide)] at H; exact H
          clear H
          have H := H1
          clear H1
          replace H := Option.bind_eq_some_iff.mp H
          obtain ⟨t261, A1410, H⟩ := H
          try dsimp only at H
          have A141 := As_ A1410
          clear A1410
          by_cases c142 : t261 < 0
          · rw [if_pos c142] at H; exact absurd H (by simp)
          rw [if_neg c142] at H
          have c142b0 : decide (t261 < 0) = false := decide_eq_false c142
          clear c142
          by_cases c143 : t261 = t245
          case neg => rw [if_neg c143] at H; exact absurd H (by simp)
          rw [if_pos c143] at H
          have c143b0 : (t261 == t245) = true := beq_iff_eq.mpr c143
          have c143b1 : (t261 != t245) = false := bne_eq_false_iff_eq.mpr c143
          clear c143
          obtain rfl := Option.some.inj H
          have hnb144 := NB234_208.out
          have hnc144 := NB208_234.out
          have hnb145 := NB234_221.out
          have hnc145 := NB221_234.out
          have hnb146 := NB234_227.out
          have hnc146 := NB227_234.out
          have hnb147 := NB234_259.out
          have hnc147 := NB259_234.out
          have hcz148_0 : wc.cell? ⟨gb234, 0, none⟩ = some (.int .i64 t228) := (blk_cell BK234.out 0).trans rfl
          have hcz148_1 : wc.cell? ⟨gb234, 1, none⟩ = some (.int .i64 t229) := (blk_cell BK234.out 1).trans rfl
          have hcz148_2 : wc.cell? ⟨gb234, 2, none⟩ = some (.slice Ao37 t246.length co37) := (blk_cell BK234.out 2).trans rfl
          have hfz148_0 := blk_frozen BK234.out 0
          have hfz148_1 := blk_frozen BK234.out 1
          have hfz148_2 := blk_frozen BK234.out 2
          go_wp2_with (first | ((with_reducible refine gate_callee (f := 14) rfl ?_); refine goesL_ (some 95) rfl rfl Try.func14 (by kernel_rfl) rfl #[.agg #[.int .i64 t228, .int .i64 t229, .slice Ao37 t246.length co37], .int .i64 1] rfl (by (try simp only [List.map_toArray, List.map_cons, List.map_nil]); first | done | rfl | (simp only [List.length_drop, List.length_take]; rfl)) ?_; (with_reducible refine (laws_heldPuzzle.calls kj96 t228 t229 _ _ t246 1 t261 _ ?side1 ?side2 A141.out).mono ?_); (case side1 => repeat (first | exact (Kd.R_reads' HO_235002.out).2.2 | (with_reducible refine Kd.C_alloc ?_ _) | (with_reducible refine Kd.C_drewN ?_ _) | (with_reducible refine Kd.C_drew ?_))); (case side2 => exact (Kd.R_reads' HO_235002.out).2.1); rintro e w149 ⟨rfl, hb⟩; refine ⟨_, rfl, ?_⟩; replace HO_222002 := As_ (Kd.R_below (by (with_reducible repeat (first | apply Kd.R_alloc | apply Kd.R_drewN | apply Kd.R_drew)); exact HO_222002.out) hb); replace HO_228002 := As_ (Kd.R_below (by (with_reducible repeat (first | apply Kd.R_alloc | apply Kd.R_drewN | apply Kd.R_drew)); exact HO_228002.out) hb); replace HO_235002 := As_ (Kd.R_below (by (with_reducible repeat (first | apply Kd.R_alloc | apply Kd.R_drewN | apply Kd.R_drew)); exact HO_235002.out) hb); replace HO_260002 := As_ (Kd.R_below (by (with_reducible repeat (first | apply Kd.R_alloc | apply Kd.R_drewN | apply Kd.R_drew)); exact HO_260002.out) hb); replace BK208 := As_ (blk_b hb BK208.out); replace BK221 := As_ (blk_b hb BK221.out); replace BK227 := As_ (blk_b hb BK227.out); replace BK234 := As_ (blk_b hb BK234.out); replace BK259 := As_ (blk_b hb BK259.out); replace HB := As_ (below_step (by repeat (first | (with_reducible first | exact HB.out | apply below_alloc | apply pw_below_drewN | apply below_drew1 | refine below_setA ?_ (by assumption)) | exact HB.out)) hb); (try clear hb)))
          go_ret
          exact ⟨by first | rfl | (simp [errW_none, errW_some] <;> rfl) | (simp [*, errW_none, errW_some] <;> rfl), by repeat (first | (with_reducible first | exact HB.out | apply below_alloc | apply pw_below_drewN | apply below_drew1 | refine below_setA ?_ (by assumption)) | exact HB.out)⟩
end Go.Proofs.Ytmmdnenmkaimoaa.PFnExactDropClue
