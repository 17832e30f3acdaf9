-- Written by a program of this session (wip/tools/pg.py) out of the translation.
import Derived.Test.YtipiaiolhhnnhaaPFnExactMakePuzzlex0
import Derived.Test.YtipiaiolhhnnhaaPFnExactMakePuzzlex15
import Derived.Test.YtipiaiolhhnnhaaPFnExactMakePuzzlex16
import Derived.Test.YtipiaiolhhnnhaaPFnExactMakePuzzlex17
import Derived.Test.YtipiaiolhhnnhaaPFnExactMakePuzzlex22
namespace Go.Proofs.Ytipiaiolhhnnhaa.PFnExactMakePuzzle
open Go.RowKit Go.Proofs.YtipiaiolhhnnhaaW.PrintWords Go.Proofs.YtipiaiolhhnnhaaW.PrintLast Go.Proofs.YtipiaiolhhnnhaaW.PrintMore Go.Proofs.YtipiaiolhhnnhaaH
attribute [local go_sem] max2_int min2_int max_two min_two max_three min_three max_four min_four   -- for this text's walks alone
set_option linter.unusedVariables false
set_option linter.unusedSimpArgs false

/-! ### impl_told: function 49 -/
def impl_told.l0 : Nat → Int → Int → List (S87) → Int → Int → Option (Int)
 | 0, _, _, _, _, _ => none
 | k + 1, x1, x7, x19, x20, x21 => if x21 < x20 then (if 0 ≤ x21 then (if x21 < (x19.length : Int) then ((impl_bit.f (((rd_T87 x19 x21).f2) == x1)).bind fun t356 => (impl_told.l0 k x1 (wrap64 (x7 + t356)) x19 x20 (wrap64 (x21 + 1)))) else (none)) else (none)) else (some x7)
def impl_told.f (k : Nat) (a0 : Int) (a1 : Int) (a2_0 : Int) (a2_1 : Int) (l2_2 : List (S87)) : Option (Int) := if a0 = 0 then (some (l2_2.length : Int)) else (if a0 = 1 then (impl_told.l0 k a1 0 l2_2 (l2_2.length : Int) 0) else (if a0 = 2 then (if a2_0 = 0 then (none) else ((impl_Cut_at.f a2_0 a2_1 l2_2 (Int.tmod a1 a2_0) (wrap64 (Int.tdiv a1 a2_0))).bind fun t357 => (if 0 ≤ t357 then (if t357 < (l2_2.length : Int) then (some ((rd_T87 l2_2 t357).f2)) else (none)) else (none)))) else (if a0 = 3 then ((impl_Cut_atEdges.f a2_0 a2_1 l2_2).bind fun t359 => (if 0 ≤ a1 then (if a1 < (t359.length : Int) then (some (rd t359 a1)) else (none)) else (none))) else (if a0 = 4 then ((impl_Cut_crosses.f k a2_0 a2_1 l2_2).bind fun t363 => (some (t363.length : Int))) else ((impl_Cut_longestLine.f k a2_0 a2_1 l2_2).bind fun t366 => (some t366))))))
theorem impl_told.mono_l : ∀ k, (∀ y0 y1 y2 y3 y4, LeO (impl_told.l0 k y0 y1 y2 y3 y4) (impl_told.l0 (k + 1) y0 y1 y2 y3 y4))
 | 0 => fun _ _ _ _ _ r h => by simp [impl_told.l0] at h
 | k + 1 => by
  have ih0 := impl_told.mono_l k
  ·
   intro y0 y1 y2 y3 y4
   unfold impl_told.l0
   repeat' first
   | (with_reducible exact ih0 _ _ _ _ _)
   | (with_reducible exact impl_Cut_crosses.mono _ _ _ _)
   | (with_reducible exact impl_Cut_longestLine.mono _ _ _ _)
   | (with_reducible exact LeO.refl _)
   | (with_reducible exact LeO.none _)
   | (with_reducible refine LeO.ite ?_ ?_)
   | (with_reducible refine LeO.bind ?_ (fun _ => ?_))
   | exact ih0 _ _ _ _ _
   | exact impl_Cut_crosses.mono _ _ _ _
   | exact impl_Cut_longestLine.mono _ _ _ _
   | exact LeO.none _
   | refine LeO.ite ?_ ?_
   | refine LeO.bind ?_ (fun _ => ?_)
theorem impl_told.mono : ∀ a0 a1 a2 a3 a4 k, LeO (impl_told.f k a0 a1 a2 a3 a4) (impl_told.f (k + 1) a0 a1 a2 a3 a4) := by
 intro a0 a1 a2 a3 a4 k
 have ih0 := impl_told.mono_l k
 unfold impl_told.f
 repeat' first
   | (with_reducible exact ih0 _ _ _ _ _)
   | (with_reducible exact impl_Cut_crosses.mono _ _ _ _)
   | (with_reducible exact impl_Cut_longestLine.mono _ _ _ _)
   | (with_reducible exact LeO.refl _)
   | (with_reducible exact LeO.none _)
   | (with_reducible refine LeO.ite ?_ ?_)
   | (with_reducible refine LeO.bind ?_ (fun _ => ?_))
   | exact ih0 _ _ _ _ _
   | exact impl_Cut_crosses.mono _ _ _ _
   | exact impl_Cut_longestLine.mono _ _ _ _
   | exact LeO.none _
   | refine LeO.ite ?_ ?_
   | refine LeO.bind ?_ (fun _ => ?_)
def impl_told.T13 : Bool × List (List Nat × List Nat) := (true, [([], []), ([0], [0]), ([], []), ([], []), ([], []), ([4], [4]), ([3, 5], [3, 5]), ([], []), ([], []), ([8], [8]), ([7, 9], [7, 9]), ([2, 6, 10], [2, 6, 10]), ([1, 11], [1, 11]), ([12], [12]), ([13], [13]), ([14, 11, 0, 1, 2, 3, 4, 5, 6, 7, 8, 9, 10, 11, 12, 13, 14], [14])])
def impl_told.B13 : List Nat := [0, 1, 0, 0, 0, 16, 56, 0, 0, 256, 896, 2044, 4095, 8191, 16383, 32767]
theorem impl_told.tab13 : rtab .any (opsOf Try.f49 13) = impl_told.T13 := by kernel_rfl
theorem impl_told.bits13 : waitsOk impl_told.T13.2 impl_told.B13 = true := by kernel_rfl
set_option maxHeartbeats 8000000 in
set_option maxRecDepth 100000 in
theorem impl_told.calls (k : Nat) (a0 : Int) (a1 : Int) (a2_0 : Int) (a2_1 : Int) (A2_2 : Option Addr) (c2_2 : Nat) (l2_2 : List (S87)) (r : Int) (w : World) (hr2_2 : Kd.C k87 w A2_2 l2_2.length l2_2) (hc2_2 : l2_2.length ≤ c2_2) (h : impl_told.f k a0 a1 a2_0 a2_1 l2_2 = some r) :
  Calls Try.prog 49 #[.int .i64 a0, .int .i64 a1, .agg #[.int .i64 a2_0, .int .i64 a2_1, .slice A2_2 l2_2.length c2_2]] w fun e w' => e = .returned (.int .i64 r) ∧ Below w.heap.size w w' := by
 have hu31 := Try.underlying31
 have hu87 := Try.underlying87
 have HR2_2 := As_ hr2_2
 have HC2_2 := As_ hc2_2
 clear hr2_2 hc2_2
 have HB := As_ (Below.refl w.heap.size w)
 have H : (if a0 = 0 then (some (l2_2.length : Int)) else (if a0 = 1 then (impl_told.l0 k a1 0 l2_2 (l2_2.length : Int) 0) else (if a0 = 2 then (if a2_0 = 0 then (none) else ((impl_Cut_at.f a2_0 a2_1 l2_2 (Int.tmod a1 a2_0) (wrap64 (Int.tdiv a1 a2_0))).bind fun t357 => (if 0 ≤ t357 then (if t357 < (l2_2.length : Int) then (some ((rd_T87 l2_2 t357).f2)) else (none)) else (none)))) else (if a0 = 3 then ((impl_Cut_atEdges.f a2_0 a2_1 l2_2).bind fun t359 => (if 0 ≤ a1 then (if a1 < (t359.length : Int) then (some (rd t359 a1)) else (none)) else (none))) else (if a0 = 4 then ((impl_Cut_crosses.f k a2_0 a2_1 l2_2).bind fun t363 => (some (t363.length : Int))) else ((impl_Cut_longestLine.f k a2_0 a2_1 l2_2).bind fun t366 => (some t366))))))) = some r := h
 clear h
 by_cases c4 : a0 = 0
 ·
  rw [if_pos c4] at H
  have c4b0 : (a0 == 0) = true := beq_iff_eq.mpr c4
  have c4b1 : (a0 != 0) = false := bne_eq_false_iff_eq.mpr c4
  clear c4
  obtain rfl := Option.some.inj H
  go_enter Try.func49, Try.ntmps49
  go_wp2_with (first | ((with_reducible refine gate_dst (N := 5) rfl ?_); refine box_event rfl (N := 5) rfl (cs := #[.int .i64 a2_0, .int .i64 a2_1, .slice A2_2 l2_2.length c2_2]) (t := 31) ?hr ?_; (case hr => first | (go_simp; done) | (go_simp; rfl)); intro gb353 hg w5 hbox hb; have BK353 := As_ (hbox); have hW_ := bel_ w hb (by repeat (first | (with_reducible first | exact HB.out | apply ba_ | apply bn_ | apply bd_) | exact HB.out)); have GE353 := As_ (gesz hg hW_); replace HB := As_ (below_step hW_ hb); clear hW_ hb hbox hg; obtain ⟨hcz6_0, hcz6_1, hcz6_2⟩ := c3_ (w := w5) BK353.out; obtain ⟨hfz6_0, hfz6_1, hfz6_2⟩ := z3_ BK353.out))
  go_ret
  exact ⟨by first | rfl | (simp <;> rfl) | (simp [*] <;> rfl), by repeat (first | (with_reducible first | exact HB.out | apply ba_ | apply bn_ | apply bd_ | refine bs_ ?_ GE353.out) | exact HB.out)⟩
 ·
  rw [if_neg c4] at H
  have c4b0 : (a0 == 0) = false := beq_eq_false_iff_ne.mpr c4
  have c4b1 : (a0 != 0) = true := bne_iff_ne.mpr c4
  by_cases c7 : a0 = 1
  ·
   rw [if_pos c7] at H
   have c7b0 : (a0 == 1) = true := beq_iff_eq.mpr c7
   have c7b1 : (a0 != 1) = false := bne_eq_false_iff_eq.mpr c7
   clear c7
   have H' := As_ H
   clear H
   go_enter Try.func49, Try.ntmps49
   go_wp2_with (first | ((with_reducible refine gate_dst (N := 5) rfl ?_); refine box_event rfl (N := 5) rfl (cs := #[.int .i64 a2_0, .int .i64 a2_1, .slice A2_2 l2_2.length c2_2]) (t := 31) ?hr ?_; (case hr => first | (go_simp; done) | (go_simp; rfl)); intro gb353 hg w8 hbox hb; have BK353 := As_ (hbox); have hW_ := bel_ w hb (by repeat (first | (with_reducible first | exact HB.out | apply ba_ | apply bn_ | apply bd_) | exact HB.out)); have GE353 := As_ (gesz hg hW_); replace HB := As_ (below_step hW_ hb); clear hW_ hb hbox hg; obtain ⟨hcz9_0, hcz9_1, hcz9_2⟩ := c3_ (w := w8) BK353.out; obtain ⟨hfz9_0, hfz9_1, hfz9_2⟩ := z3_ BK353.out))
   go_loopg [7, 21] k (fun kq v7 v21 w' => ∃ (x7_1 : Int) (x21_1 : Int), v7 = .int .i64 x7_1 ∧ v21 = .int .i64 x21_1 ∧ Aside0 (impl_told.l0 kq a1 x7_1 l2_2 (l2_2.length : Int) x21_1 = some r) ∧ Aside0 (kq ≤ k) ∧ Aside0 (w'.heap[gb353]? = some (.cells #[.int .i64 a2_0, .int .i64 a2_1, (.slice A2_2 l2_2.length c2_2)] 31 (0, 0))) ∧ Aside0 (Below w.heap.size w w'))
   case atStart => exact ⟨(0), (0), (by first | rfl | (simp; done) | (simp [*]; done)), (by first | rfl | (simp; done) | (simp [*]; done)), H', ⟨Nat.le_refl _⟩, ⟨by (with_reducible repeat (first | refine kn_ ?_ _ | refine kd_ ?_ | refine ka_ ?_ _)); exact BK353.out⟩, ⟨by repeat (first | (with_reducible first | exact HB.out | apply ba_ | apply bn_ | apply bd_ | refine bs_ ?_ GE353.out) | exact HB.out)⟩⟩
   case round =>
    clear H'
    try clear c2; try clear p2; try clear c4; try clear c4b0; try clear c4b1; try clear p6; try clear c7; try clear c7b0; try clear c7b1; try clear hcz6_0 hcz6_1 hcz6_2; try clear hcz9_0 hcz9_1 hcz9_2; try clear hfz6_0 hfz6_1 hfz6_2; try clear hfz9_0 hfz9_1 hfz9_2
    obtain ⟨x7_1, x21_1, rfl, rfl, HA, HK1, BK353, HB⟩ := hrel
    rcases gk with _ | k1
    · exact absurd HA.out (by simp [impl_told.l0])
    have H := HA.out
    clear HA
    simp only [impl_told.l0] at H
    by_cases c10 : x21_1 < (l2_2.length : Int)
    ·
     rw [if_pos c10] at H
     have c10b0 : decide (x21_1 < (l2_2.length : Int)) = true := decide_eq_true c10
     clear c10
     by_cases c11 : 0 ≤ x21_1
     case neg => rw [if_neg c11] at H; exact absurd H (by simp)
     rw [if_pos c11] at H
     have c11b0 : decide (0 ≤ x21_1) = true := decide_eq_true c11
     clear c11
     by_cases c12 : x21_1 < (l2_2.length : Int)
     case neg => rw [if_neg c12] at H; exact absurd H (by simp)
     rw [if_pos c12] at H
     have c12b0 : decide (x21_1 < (l2_2.length : Int)) = true := decide_eq_true c12
     clear c12
     replace H := Option.bind_eq_some_iff.mp H
     obtain ⟨t356, A130, H⟩ := H
     try dsimp only at H
     have A13 := As_ A130
     clear A130
     have H' := As_ H
     clear H
     have p354 : 0 ≤ (x21_1 : Int) := of_decide_eq_true (by first | (with_reducible assumption) | assumption)
     have q354 : x21_1 < (l2_2.length : Int) := of_decide_eq_true (by first | (with_reducible assumption) | assumption)
     obtain ⟨ad354, e354, hx354_0, hx354_1, hx354_2⟩ := at_T87 HR2_2.out x21_1 p354 q354
     cases e354
     replace hx354_0 := pw_cell_below HB.out hx354_0
     replace hx354_1 := pw_cell_below HB.out hx354_1
     replace hx354_2 := pw_cell_below HB.out hx354_2
     replace p354 := eq_true p354
     replace q354 := eq_true q354
     go_wp2_with (first | ((with_reducible refine gate_dst (N := 9) rfl ?_); refine box_event rfl (N := 9) rfl (cs := #[.int .i64 0, .int .i64 0, .int .i64 0]) (t := 87) ?hr ?_; (case hr => first | (go_simp; done) | (go_simp; rfl)); intro gb355 hg w14 hbox hb; have BK355 := As_ (hbox); have hW_ := bel_ w hb (by repeat (first | (with_reducible first | exact HB.out | apply ba_ | apply bn_ | apply bd_ | refine bs_ ?_ GE353.out) | exact HB.out)); have GE355 := As_ (gesz hg hW_); have NB353_355 := As_ (ne_lt hg BK353.out); have NB355_353 := As_ (ne_gt hg BK353.out); replace BK353 := As_ (blk_b hb BK353.out); replace HB := As_ (below_step hW_ hb); clear hW_ hb hbox hg; have hnb15 := NB355_353.out; have hnc15 := NB353_355.out; obtain ⟨hcz16_0, hcz16_1, hcz16_2⟩ := c3_ (w := w14) BK355.out; obtain ⟨hfz16_0, hfz16_1, hfz16_2⟩ := z3_ BK355.out) | ((with_reducible refine gate_callee (f := 72) rfl ?_); refine goesL_ (some 30) rfl rfl Try.func72 (by kernel_rfl) rfl #[.bool (((rd_T87 l2_2 x21_1).f2) == a1)] rfl (by (try simp only [List.map_toArray, List.map_cons, List.map_nil]); first | done | rfl | (simp only [List.length_drop, List.length_take]; rfl)) ?_; (with_reducible refine (impl_bit.calls (((rd_T87 l2_2 x21_1).f2) == a1) t356 _ A13.out).mono ?_); rintro e w' ⟨rfl, ⟨nd, rfl⟩⟩; refine ⟨_, rfl, ?_⟩))
     go_roundg k1
     case measure => have := HK1.out; omega
     case rel => exact ⟨(wrap64 (x7_1 + t356)), (wrap64 (x21_1 + 1)), (by first | rfl | (simp; done) | (simp [*]; done)), (by first | rfl | (simp; done) | (simp [*]; done)), H', ⟨by have := HK1.out; omega⟩, ⟨by (with_reducible repeat (first | refine kn_ ?_ _ | refine kd_ ?_ | refine ka_ ?_ _)); refine blk_far ?_ NB353_355.out _; refine blk_far ?_ NB353_355.out _; refine blk_far ?_ NB353_355.out _; (with_reducible repeat (first | refine kn_ ?_ _ | refine kd_ ?_ | refine ka_ ?_ _)); exact BK353.out⟩, ⟨by repeat (first | (with_reducible first | exact HB.out | apply ba_ | apply bn_ | apply bd_ | refine below_setA ?_ (by assumption)) | exact HB.out)⟩⟩
    ·
     rw [if_neg c10] at H
     have c10b0 : decide (x21_1 < (l2_2.length : Int)) = false := decide_eq_false c10
     clear c10
     obtain rfl := Option.some.inj H
     go_wp2
     go_ret
     exact ⟨by first | rfl | (simp <;> rfl) | (simp [*] <;> rfl), by repeat (first | (with_reducible first | exact HB.out | apply ba_ | apply bn_ | apply bd_ | refine bs_ ?_ GE353.out) | exact HB.out)⟩
  ·
   rw [if_neg c7] at H
   have c7b0 : (a0 == 1) = false := beq_eq_false_iff_ne.mpr c7
   have c7b1 : (a0 != 1) = true := bne_iff_ne.mpr c7
   by_cases c17 : a0 = 2
   ·
    rw [if_pos c17] at H
    have c17b0 : (a0 == 2) = true := beq_iff_eq.mpr c17
    have c17b1 : (a0 != 2) = false := bne_eq_false_iff_eq.mpr c17
    clear c17
    by_cases c18 : a2_0 = 0
    · rw [if_pos c18] at H; exact absurd H (by simp)
    rw [if_neg c18] at H
    have c18b0 : (a2_0 == 0) = false := beq_eq_false_iff_ne.mpr c18
    have c18b1 : (a2_0 != 0) = true := bne_iff_ne.mpr c18
    replace H := Option.bind_eq_some_iff.mp H
    obtain ⟨t357, A190, H⟩ := H
    try dsimp only at H
    have A19 := As_ A190
    clear A190
    by_cases c20 : 0 ≤ t357
    case neg => rw [if_neg c20] at H; exact absurd H (by simp)
    rw [if_pos c20] at H
    have c20b0 : decide (0 ≤ t357) = true := decide_eq_true c20
    clear c20
    by_cases c21 : t357 < (l2_2.length : Int)
    case neg => rw [if_neg c21] at H; exact absurd H (by simp)
    rw [if_pos c21] at H
    have c21b0 : decide (t357 < (l2_2.length : Int)) = true := decide_eq_true c21
    clear c21
    obtain rfl := Option.some.inj H
    go_enter Try.func49, Try.ntmps49
    try go_wp2_with (first | ((with_reducible refine gate_dst (N := 5) rfl ?_); refine box_event rfl (N := 5) rfl (cs := #[.int .i64 a2_0, .int .i64 a2_1, .slice A2_2 l2_2.length c2_2]) (t := 31) ?hr ?_; (case hr => first | (go_simp; done) | (go_simp; rfl)); intro gb353 hg w22 hbox hb; have BK353 := As_ (hbox); have hW_ := bel_ w hb (by repeat (first | (with_reducible first | exact HB.out | apply ba_ | apply bn_ | apply bd_) | exact HB.out)); have GE353 := As_ (gesz hg hW_); replace HB := As_ (below_step hW_ hb); clear hW_ hb hbox hg))
    replace BK353 := As_ (blk_drew BK353.out)
    replace HB := As_ (below_drew1 HB.out)
    have p358 : 0 ≤ (t357 : Int) := of_decide_eq_true (by first | (with_reducible assumption) | assumption)
    have q358 : t357 < (l2_2.length : Int) := of_decide_eq_true (by first | (with_reducible assumption) | assumption)
    obtain ⟨ad358, e358, hx358_0, hx358_1, hx358_2⟩ := at_T87 HR2_2.out t357 p358 q358
    have hw358_2 := hx358_2
    have hw358_1 := hx358_1
    have hw358_0 := hx358_0
    cases e358
    replace hx358_0 := pw_cell_below HB.out hx358_0
    replace hx358_1 := pw_cell_below HB.out hx358_1
    replace hx358_2 := pw_cell_below HB.out hx358_2
    replace p358 := eq_true p358
    replace q358 := eq_true q358
    refine start_ (n := 16) (S := fun w' => w'.cell? ⟨gb353, 0, none⟩ = some (.int .i64 a2_0) ∧ w'.cell? ⟨gb353, 1, none⟩ = some (.int .i64 a2_1) ∧ w'.cell? ⟨gb353, 2, none⟩ = some (.slice (some ad358) l2_2.length c2_2) ∧ w'.cell? (ad358.add ((t357).toNat * 3)) = some (.int .i64 ((rd_T87 l2_2 t357).f0)) ∧ w'.cell? ⟨(ad358.add ((t357).toNat * 3)).block, (ad358.add ((t357).toNat * 3)).off + 1, none⟩ = some (.int .i64 ((rd_T87 l2_2 t357).f1)) ∧ w'.cell? ⟨(ad358.add ((t357).toNat * 3)).block, (ad358.add ((t357).toNat * 3)).off + 2, none⟩ = some (.int .i64 ((rd_T87 l2_2 t357).f2))) (ds := []) #[false, false, false, false, false, false, false, false, false, false, false, false, false, false, false, false] (by kernel_rfl) rfl rfl ⟨(blk_cell BK353.out 0).trans rfl, (blk_cell BK353.out 1).trans rfl, (blk_cell BK353.out 2).trans rfl, ((HB.out.cell (World.block_lt_of_cell? w _ hw358_0)).trans hw358_0), ((HB.out.cell (World.block_lt_of_cell? w _ hw358_1)).trans hw358_1), ((HB.out.cell (World.block_lt_of_cell? w _ hw358_2)).trans hw358_2)⟩ (fun hHeld => ?_); refine with_tabW impl_told.tab13 impl_told.bits13 (fun HT_ HW_ => ?_)
    generalize w22.drew = w23 at BK353 HB hx358_0 hx358_1 hx358_2 hHeld ⊢
    refine pu_ (v := ?_) (a' := ?_) 0 (some 36) #[true, false, false, false, false, false, false, false, false, false, false, false, false, false, false, false] rfl rfl (any_of HT_.out (by kernel_rfl)) (fun _ _ _ h => h) (.inl ⟨by rfl, ?_⟩) ?_ ?_; rotate_left
    · intro w'; go_simp; with_reducible rfl
    rotate_left
    · simp only [Act.put, sib_, sc0_, sc1_, i64_w, i32_w]; rfl
    refine pu_ (v := ?_) (a' := ?_) 3 (some 39) #[true, false, false, true, false, false, false, false, false, false, false, false, false, false, false, false] rfl rfl (any_of HT_.out (by kernel_rfl)) (fun _ _ _ h => h) (.inl ⟨by rfl, ?_⟩) ?_ ?_; rotate_left
    · intro w'; go_simp; with_reducible rfl
    rotate_left
    · simp only [Act.put, sib_, sc0_, sc1_, i64_w, i32_w]; rfl
    refine pu_ (v := ?_) (a' := ?_) 4 (some 40) #[true, false, false, true, true, false, false, false, false, false, false, false, false, false, false, false] rfl rfl (any_of HT_.out (by kernel_rfl)) (fun _ _ _ h => h) (.inl ⟨by rfl, ?_⟩) ?_ ?_; rotate_left
    · intro w'; go_simp; with_reducible rfl
    rotate_left
    · simp only [Act.put, sib_, sc0_, sc1_, i64_w, i32_w]; rfl
    refine pu_ (v := ?_) (a' := ?_) 7 (some 43) #[true, false, false, true, true, false, false, true, false, false, false, false, false, false, false, false] rfl rfl (any_of HT_.out (by kernel_rfl)) (fun _ _ _ h => h) (.inl ⟨by rfl, ?_⟩) ?_ ?_; rotate_left
    · intro w'; go_simp; with_reducible rfl
    rotate_left
    · simp only [Act.put, sib_, sc0_, sc1_, i64_w, i32_w]; rfl
    refine pu_ (v := ?_) (a' := ?_) 8 (some 44) #[true, false, false, true, true, false, false, true, true, false, false, false, false, false, false, false] rfl rfl (any_of HT_.out (by kernel_rfl)) (fun _ _ _ h => h) (.inl ⟨by rfl, ?_⟩) ?_ ?_; rotate_left
    · intro w'; go_simp; with_reducible rfl
    rotate_left
    · simp only [Act.put, sib_, sc0_, sc1_, i64_w, i32_w]; rfl
    refine take_ (i := 1) (N := some 37) (v := ?_) (a' := ?_) #[true, true, false, true, true, false, false, true, true, false, false, false, false, false, false, false] rfl rfl (take_ofW HT_.out HW_.out (by kernel_rfl)) (fun _ _ _ h => h) (Or.inl ⟨by rfl, ?_⟩) hHeld ?_ ?_; rotate_left
    ·
     rintro w' ⟨s0, s1, s2, s3, s4, s5⟩
     go_simp
     with_reducible rfl
    rotate_left
    · simp only [Act.put, sib_, sc0_, sc1_, i64_w, i32_w]; rfl
    refine take_ (i := 2) (N := some 38) (v := ?_) (a' := ?_) #[true, true, true, true, true, false, false, true, true, false, false, false, false, false, false, false] rfl rfl (take_ofW HT_.out HW_.out (by kernel_rfl)) (fun _ _ _ h => h) (Or.inl ⟨by rfl, ?_⟩) hHeld ?_ ?_; rotate_left
    ·
     rintro w' ⟨s0, s1, s2, s3, s4, s5⟩
     go_simp
     with_reducible rfl
    rotate_left
    · simp only [Act.put, sib_, sc0_, sc1_, i64_w, i32_w]; rfl
    refine take_ (i := 5) (N := some 41) (v := ?_) (a' := ?_) #[true, true, true, true, true, true, false, true, true, false, false, false, false, false, false, false] rfl rfl (take_ofW HT_.out HW_.out (by kernel_rfl)) (fun _ _ _ h => h) (Or.inl ⟨by rfl, ?_⟩) hHeld ?_ ?_; rotate_left
    ·
     rintro w' ⟨s0, s1, s2, s3, s4, s5⟩
     go_simp
     with_reducible rfl
    rotate_left
    · simp only [Act.put, sib_, sc0_, sc1_, i64_w, i32_w]; rfl
    refine pu_ (v := ?_) (a' := ?_) 6 (some 42) #[true, true, true, true, true, true, true, true, true, false, false, false, false, false, false, false] rfl rfl (any_of HT_.out (by kernel_rfl)) (fun _ _ _ h => h) (.inl ⟨by rfl, ?_⟩) ?_ ?_; rotate_left
    · intro w'; go_simp; with_reducible rfl
    rotate_left
    · simp only [Act.put, sib_, sc0_, sc1_, i64_w, i32_w]; rfl
    refine take_ (i := 9) (N := some 45) (v := ?_) (a' := ?_) #[true, true, true, true, true, true, true, true, true, true, false, false, false, false, false, false] rfl rfl (take_ofW HT_.out HW_.out (by kernel_rfl)) (fun _ _ _ h => h) (Or.inl ⟨by rfl, ?_⟩) hHeld ?_ ?_; rotate_left
    ·
     rintro w' ⟨s0, s1, s2, s3, s4, s5⟩
     go_simp
     with_reducible rfl
    rotate_left
    · simp only [Act.put, sib_, sc0_, sc1_, i64_w, i32_w]; rfl
    refine pu_ (v := ?_) (a' := ?_) 10 (some 46) #[true, true, true, true, true, true, true, true, true, true, true, false, false, false, false, false] rfl rfl (any_of HT_.out (by kernel_rfl)) (fun _ _ _ h => h) (.inl ⟨by rfl, ?_⟩) ?_ ?_; rotate_left
    · intro w'; go_simp; with_reducible rfl
    rotate_left
    · simp only [Act.put, sib_, sc0_, sc1_, i64_w, i32_w]; rfl
    refine one_ (i := 11) (N := some 47) #[true, true, true, true, true, true, true, true, true, true, true, true, false, false, false, false] rfl rfl (one_of HT_.out (by kernel_rfl)) (by decide) (fun K hK => ?_)
    refine goes_ Try.func73 (by kernel_rfl) rfl #[.agg #[.int .i64 a2_0, .int .i64 a2_1, .slice (some ad358) l2_2.length c2_2], .int .i64 (Int.tmod a1 a2_0), .int .i64 (wrap64 (Int.tdiv a1 a2_0))] (by rfl) rfl rfl (by (try simp only [List.map_toArray, List.map_cons, List.map_nil]); first | done | rfl | (simp only [List.length_drop, List.length_take]; rfl)) ?_
    with_reducible refine (impl_Cut_at.calls a2_0 a2_1 _ _ l2_2 (Int.tmod a1 a2_0) (wrap64 (Int.tdiv a1 a2_0)) t357 _ ?side1 ?side2 A19.out).mono ?_
    (case side1 => repeat (first | exact (Kd.C_below HR2_2.out HB.out) | (with_reducible refine Kd.C_alloc ?_ _) | (with_reducible refine Kd.C_drewN ?_ _) | (with_reducible refine Kd.C_drew ?_)))
    (case side2 => exact HC2_2.out)
    rintro e w24 ⟨rfl, hb⟩
    refine ⟨_, rfl, ?_⟩
    replace BK353 := As_ (blk_b hb BK353.out)
    replace HB := As_ (below_step (by repeat (first | (with_reducible first | exact HB.out | apply ba_ | apply bn_ | apply bd_ | refine bs_ ?_ GE353.out) | exact HB.out)) hb)
    (try clear hb)
    (try clear hb2)
    (try clear hk)
    (try clear hi)
    refine hK.out _ _ ⟨(blk_cell BK353.out 0).trans rfl, (blk_cell BK353.out 1).trans rfl, (blk_cell BK353.out 2).trans rfl, ((HB.out.cell (World.block_lt_of_cell? w _ hw358_0)).trans hw358_0), ((HB.out.cell (World.block_lt_of_cell? w _ hw358_1)).trans hw358_1), ((HB.out.cell (World.block_lt_of_cell? w _ hw358_2)).trans hw358_2)⟩ (fun hHeld => ?_); clear hK K
    refine norm_ (a' := ?_) ?_ ?_; rotate_left
    ·
     show Act.put _ (some 47) _ = _
     simp only [Act.put, sib_, sc0_, sc1_, i64_w, i32_w]
     rfl
    refine pu_ (v := ?_) (a' := ?_) 12 (some 48) #[true, true, true, true, true, true, true, true, true, true, true, true, true, false, false, false] rfl rfl (any_of HT_.out (by kernel_rfl)) (fun _ _ _ h => h) (.inl ⟨by rfl, ?_⟩) ?_ ?_; rotate_left
    · intro w'; go_simp; with_reducible rfl
    rotate_left
    · simp only [Act.put, sib_, sc0_, sc1_, i64_w, i32_w]; rfl
    refine pu_ (v := ?_) (a' := ?_) 13 (some 49) #[true, true, true, true, true, true, true, true, true, true, true, true, true, true, false, false] rfl rfl (any_of HT_.out (by kernel_rfl)) (fun _ _ _ h => h) (.inl ⟨by rfl, ?_⟩) ?_ ?_; rotate_left
    · intro w'; go_simp; with_reducible rfl
    rotate_left
    · simp only [Act.put, sib_, sc0_, sc1_, i64_w, i32_w]; rfl
    refine take_ (i := 14) (N := some 50) (v := ?_) (a' := ?_) #[true, true, true, true, true, true, true, true, true, true, true, true, true, true, true, false] rfl rfl (take_ofW HT_.out HW_.out (by kernel_rfl)) (fun _ _ _ h => h) (Or.inl ⟨by rfl, ?_⟩) hHeld ?_ ?_; rotate_left
    ·
     rintro w' ⟨s0, s1, s2, s3, s4, s5⟩
     go_simp
     with_reducible rfl
    rotate_left
    · simp only [Act.put, sib_, sc0_, sc1_, i64_w, i32_w]; rfl
    refine pu_ (v := ?_) (a' := ?_) 15 (some 6) #[true, true, true, true, true, true, true, true, true, true, true, true, true, true, true, true] rfl rfl (any_of HT_.out (by kernel_rfl)) (fun _ _ _ h => h) (.inl ⟨by rfl, ?_⟩) ?_ ?_; rotate_left
    · intro w'; go_simp; with_reducible rfl
    rotate_left
    · simp only [Act.put, sib_, sc0_, sc1_, i64_w, i32_w]; rfl
    refine done_ (done_of HT_.out (by kernel_rfl)) ?_
    try go_wp2
    go_ret
    exact ⟨by first | rfl | (simp <;> rfl) | (simp [*] <;> rfl), by repeat (first | (with_reducible first | exact HB.out | apply ba_ | apply bn_ | apply bd_ | refine bs_ ?_ GE353.out) | exact HB.out)⟩
   ·
    rw [if_neg c17] at H
    have c17b0 : (a0 == 2) = false := beq_eq_false_iff_ne.mpr c17
    have c17b1 : (a0 != 2) = true := bne_iff_ne.mpr c17
    by_cases c25 : a0 = 3
    ·
     rw [if_pos c25] at H
     have c25b0 : (a0 == 3) = true := beq_iff_eq.mpr c25
     have c25b1 : (a0 != 3) = false := bne_eq_false_iff_eq.mpr c25
     clear c25
     replace H := Option.bind_eq_some_iff.mp H
     obtain ⟨t359, A260, H⟩ := H
     try dsimp only at H
     have A26 := As_ A260
     clear A260
     by_cases c27 : 0 ≤ a1
     case neg => rw [if_neg c27] at H; exact absurd H (by simp)
     rw [if_pos c27] at H
     have c27b0 : decide (0 ≤ a1) = true := decide_eq_true c27
     clear c27
     by_cases c28 : a1 < (t359.length : Int)
     case neg => rw [if_neg c28] at H; exact absurd H (by simp)
     rw [if_pos c28] at H
     have c28b0 : decide (a1 < (t359.length : Int)) = true := decide_eq_true c28
     clear c28
     obtain rfl := Option.some.inj H
     go_enter Try.func49, Try.ntmps49
     go_wp2_with (first | ((with_reducible refine gate_dst (N := 5) rfl ?_); refine box_event rfl (N := 5) rfl (cs := #[.int .i64 a2_0, .int .i64 a2_1, .slice A2_2 l2_2.length c2_2]) (t := 31) ?hr ?_; (case hr => first | (go_simp; done) | (go_simp; rfl)); intro gb353 hg w29 hbox hb; have BK353 := As_ (hbox); have hW_ := bel_ w hb (by repeat (first | (with_reducible first | exact HB.out | apply ba_ | apply bn_ | apply bd_) | exact HB.out)); have GE353 := As_ (gesz hg hW_); replace HB := As_ (below_step hW_ hb); clear hW_ hb hbox hg; obtain ⟨hcz30_0, hcz30_1, hcz30_2⟩ := c3_ (w := w29) BK353.out; obtain ⟨hfz30_0, hfz30_1, hfz30_2⟩ := z3_ BK353.out) | ((with_reducible refine gate_callee (f := 74) rfl ?_); refine goesL_ (some 54) rfl rfl Try.func74 (by kernel_rfl) rfl #[.agg #[.int .i64 a2_0, .int .i64 a2_1, .slice A2_2 l2_2.length c2_2]] rfl (by (try simp only [List.map_toArray, List.map_cons, List.map_nil]); first | done | rfl | (simp only [List.length_drop, List.length_take]; rfl)) ?_; (with_reducible refine (impl_Cut_atEdges.calls a2_0 a2_1 _ _ l2_2 t359 _ ?side1 ?side2 A26.out).mono ?_); (case side1 => repeat (first | exact (Kd.C_below HR2_2.out HB.out) | (with_reducible refine Kd.C_alloc ?_ _) | (with_reducible refine Kd.C_drewN ?_ _) | (with_reducible refine Kd.C_drew ?_))); (case side2 => exact HC2_2.out); rintro e w31 ⟨v360, rfl, ho0, hb⟩; refine ⟨_, rfl, ?_⟩; have HO361 := As_ (Kd.R_lower ho0 (below_size (by repeat (first | (with_reducible first | exact HB.out | apply ba_ | apply bn_ | apply bd_ | refine bs_ ?_ GE353.out) | exact HB.out)))); replace BK353 := As_ (blk_b hb BK353.out); replace HB := As_ (below_step (by repeat (first | (with_reducible first | exact HB.out | apply ba_ | apply bn_ | apply bd_ | refine bs_ ?_ GE353.out) | exact HB.out)) hb); (try clear hb); (try clear ho0); obtain ⟨Ao32, co32, eo32⟩ := Kd.R_slice HO361.out; subst eo32; have p362 : 0 ≤ (a1 : Int) := of_decide_eq_true (by first | (with_reducible assumption) | assumption); have q362 : a1 < (t359.length : Int) := of_decide_eq_true (by first | (with_reducible assumption) | assumption); obtain ⟨ad362, e362, hx362_0⟩ := Kd.at_int (Kd.R_reads' HO361.out).2.2 a1 p362 q362; cases e362; replace p362 := eq_true p362; replace q362 := eq_true q362))
     go_ret
     exact ⟨by first | rfl | (simp <;> rfl) | (simp [*] <;> rfl), by repeat (first | (with_reducible first | exact HB.out | apply ba_ | apply bn_ | apply bd_ | refine bs_ ?_ GE353.out) | exact HB.out)⟩
    ·
     rw [if_neg c25] at H
     have c25b0 : (a0 == 3) = false := beq_eq_false_iff_ne.mpr c25
     have c25b1 : (a0 != 3) = true := bne_iff_ne.mpr c25
     by_cases c33 : a0 = 4
     ·
      rw [if_pos c33] at H
      have c33b0 : (a0 == 4) = true := beq_iff_eq.mpr c33
      have c33b1 : (a0 != 4) = false := bne_eq_false_iff_eq.mpr c33
      clear c33
      replace H := Option.bind_eq_some_iff.mp H
      obtain ⟨t363, A340, H⟩ := H
      try dsimp only at H
      have A34 := As_ A340
      clear A340
      obtain rfl := Option.some.inj H
      go_enter Try.func49, Try.ntmps49
      go_wp2_with (first | ((with_reducible refine gate_dst (N := 5) rfl ?_); refine box_event rfl (N := 5) rfl (cs := #[.int .i64 a2_0, .int .i64 a2_1, .slice A2_2 l2_2.length c2_2]) (t := 31) ?hr ?_; (case hr => first | (go_simp; done) | (go_simp; rfl)); intro gb353 hg w35 hbox hb; have BK353 := As_ (hbox); have hW_ := bel_ w hb (by repeat (first | (with_reducible first | exact HB.out | apply ba_ | apply bn_ | apply bd_) | exact HB.out)); have GE353 := As_ (gesz hg hW_); replace HB := As_ (below_step hW_ hb); clear hW_ hb hbox hg; obtain ⟨hcz36_0, hcz36_1, hcz36_2⟩ := c3_ (w := w35) BK353.out; obtain ⟨hfz36_0, hfz36_1, hfz36_2⟩ := z3_ BK353.out) | ((with_reducible refine gate_callee (f := 75) rfl ?_); refine goesL_ (some 61) rfl rfl Try.func75 (by kernel_rfl) rfl #[.agg #[.int .i64 a2_0, .int .i64 a2_1, .slice A2_2 l2_2.length c2_2]] rfl (by (try simp only [List.map_toArray, List.map_cons, List.map_nil]); first | done | rfl | (simp only [List.length_drop, List.length_take]; rfl)) ?_; (with_reducible refine (impl_Cut_crosses.calls k a2_0 a2_1 _ _ l2_2 t363 _ ?side1 ?side2 A34.out).mono ?_); (case side1 => repeat (first | exact (Kd.C_below HR2_2.out HB.out) | (with_reducible refine Kd.C_alloc ?_ _) | (with_reducible refine Kd.C_drewN ?_ _) | (with_reducible refine Kd.C_drew ?_))); (case side2 => exact HC2_2.out); rintro e w37 ⟨v364, rfl, ho0, hb⟩; refine ⟨_, rfl, ?_⟩; have HO365 := As_ (Kd.S_lower ho0 (below_size (by repeat (first | (with_reducible first | exact HB.out | apply ba_ | apply bn_ | apply bd_ | refine bs_ ?_ GE353.out) | exact HB.out)))); replace BK353 := As_ (blk_b hb BK353.out); replace HB := As_ (below_step (by repeat (first | (with_reducible first | exact HB.out | apply ba_ | apply bn_ | apply bd_ | refine bs_ ?_ GE353.out) | exact HB.out)) hb); (try clear hb); (try clear ho0); obtain ⟨Ao38, co38, eo38⟩ := Kd.S_slice HO365.out; subst eo38))
      go_ret
      exact ⟨by first | rfl | (simp <;> rfl) | (simp [*] <;> rfl), by repeat (first | (with_reducible first | exact HB.out | apply ba_ | apply bn_ | apply bd_ | refine bs_ ?_ GE353.out) | exact HB.out)⟩
     ·
      rw [if_neg c33] at H
      have c33b0 : (a0 == 4) = false := beq_eq_false_iff_ne.mpr c33
      have c33b1 : (a0 != 4) = true := bne_iff_ne.mpr c33
      replace H := Option.bind_eq_some_iff.mp H
      obtain ⟨t366, A390, H⟩ := H
      try dsimp only at H
      have A39 := As_ A390
      clear A390
      obtain rfl := Option.some.inj H
      go_enter Try.func49, Try.ntmps49
      go_wp2_with (first | ((with_reducible refine gate_dst (N := 5) rfl ?_); refine box_event rfl (N := 5) rfl (cs := #[.int .i64 a2_0, .int .i64 a2_1, .slice A2_2 l2_2.length c2_2]) (t := 31) ?hr ?_; (case hr => first | (go_simp; done) | (go_simp; rfl)); intro gb353 hg w40 hbox hb; have BK353 := As_ (hbox); have hW_ := bel_ w hb (by repeat (first | (with_reducible first | exact HB.out | apply ba_ | apply bn_ | apply bd_) | exact HB.out)); have GE353 := As_ (gesz hg hW_); replace HB := As_ (below_step hW_ hb); clear hW_ hb hbox hg; obtain ⟨hcz41_0, hcz41_1, hcz41_2⟩ := c3_ (w := w40) BK353.out; obtain ⟨hfz41_0, hfz41_1, hfz41_2⟩ := z3_ BK353.out) | ((with_reducible refine gate_callee (f := 76) rfl ?_); refine goesL_ (some 64) rfl rfl Try.func76 (by kernel_rfl) rfl #[.agg #[.int .i64 a2_0, .int .i64 a2_1, .slice A2_2 l2_2.length c2_2]] rfl (by (try simp only [List.map_toArray, List.map_cons, List.map_nil]); first | done | rfl | (simp only [List.length_drop, List.length_take]; rfl)) ?_; (with_reducible refine (impl_Cut_longestLine.calls k a2_0 a2_1 _ _ l2_2 t366 _ ?side1 ?side2 A39.out).mono ?_); (case side1 => repeat (first | exact (Kd.C_below HR2_2.out HB.out) | (with_reducible refine Kd.C_alloc ?_ _) | (with_reducible refine Kd.C_drewN ?_ _) | (with_reducible refine Kd.C_drew ?_))); (case side2 => exact HC2_2.out); rintro e w42 ⟨rfl, hb⟩; refine ⟨_, rfl, ?_⟩; replace BK353 := As_ (blk_b hb BK353.out); replace HB := As_ (below_step (by repeat (first | (with_reducible first | exact HB.out | apply ba_ | apply bn_ | apply bd_ | refine bs_ ?_ GE353.out) | exact HB.out)) hb); (try clear hb)))
      go_ret
      exact ⟨by first | rfl | (simp <;> rfl) | (simp [*] <;> rfl), by repeat (first | (with_reducible first | exact HB.out | apply ba_ | apply bn_ | apply bd_ | refine bs_ ?_ GE353.out) | exact HB.out)⟩

end Go.Proofs.Ytipiaiolhhnnhaa.PFnExactMakePuzzle
