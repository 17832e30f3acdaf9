-- Written by a program of this session (wip/tools/pg.py) out of the translation.
import Derived.Test.YtipiaiolhhnnhaaPFnExactMakePuzzlex0
namespace Go.Proofs.Ytipiaiolhhnnhaa.PFnExactMakePuzzle
open Go.RowKit Go.Proofs.YtipiaiolhhnnhaaW.PrintWords Go.Proofs.YtipiaiolhhnnhaaW.PrintLast Go.Proofs.YtipiaiolhhnnhaaW.PrintMore Go.Proofs.YtipiaiolhhnnhaaH
attribute [local go_sem] max2_int min2_int max_two min_two max_three min_three max_four min_four   -- for this text's walks alone
set_option linter.unusedVariables false
set_option linter.unusedSimpArgs false

/-! ### impl_overlap: function 86 -/
def impl_overlap.f (a0_0 : Int) (a0_1 : Int) (a0_2 : Int) (a1_0 : Int) (a1_1 : Int) (a1_2 : Int) : Option (Bool) := if a0_0 < (wrap64 (a1_0 + a1_2)) then (if a1_0 < (wrap64 (a0_0 + a0_2)) then (if a0_1 < (wrap64 (a1_1 + a1_2)) then (some (decide (a1_1 < (wrap64 (a0_1 + a0_2))))) else (some false)) else (some false)) else (some false)
set_option maxHeartbeats 8000000 in
set_option maxRecDepth 100000 in
theorem impl_overlap.calls (a0_0 : Int) (a0_1 : Int) (a0_2 : Int) (a1_0 : Int) (a1_1 : Int) (a1_2 : Int) (r : Bool) (w : World) (h : impl_overlap.f a0_0 a0_1 a0_2 a1_0 a1_1 a1_2 = some r) :
  Calls Try.prog 86 #[.agg #[.int .i64 a0_0, .int .i64 a0_1, .int .i64 a0_2], .agg #[.int .i64 a1_0, .int .i64 a1_1, .int .i64 a1_2]] w fun e w' => e = .returned (.bool r) ∧ Below w.heap.size w w' := by
 have hu87 := Try.underlying87
 have HB := As_ (Below.refl w.heap.size w)
 have H : (if a0_0 < (wrap64 (a1_0 + a1_2)) then (if a1_0 < (wrap64 (a0_0 + a0_2)) then (if a0_1 < (wrap64 (a1_1 + a1_2)) then (some (decide (a1_1 < (wrap64 (a0_1 + a0_2))))) else (some false)) else (some false)) else (some false)) = some r := h
 clear h
 by_cases c3 : a0_0 < (wrap64 (a1_0 + a1_2))
 ·
  rw [if_pos c3] at H
  have c3b0 : decide (a0_0 < (wrap64 (a1_0 + a1_2))) = true := decide_eq_true c3
  clear c3
  by_cases c4 : a1_0 < (wrap64 (a0_0 + a0_2))
  ·
   rw [if_pos c4] at H
   have c4b0 : decide (a1_0 < (wrap64 (a0_0 + a0_2))) = true := decide_eq_true c4
   clear c4
   by_cases c5 : a0_1 < (wrap64 (a1_1 + a1_2))
   ·
    rw [if_pos c5] at H
    have c5b0 : decide (a0_1 < (wrap64 (a1_1 + a1_2))) = true := decide_eq_true c5
    clear c5
    obtain rfl := Option.some.inj H
    go_enter Try.func86, Try.ntmps86
    go_wp2_with (first | ((with_reducible refine gate_dst (N := 2) rfl ?_); refine box_event rfl (N := 2) rfl (cs := #[.int .i64 a0_0, .int .i64 a0_1, .int .i64 a0_2]) (t := 87) ?hr ?_; (case hr => first | (go_simp; done) | (go_simp; rfl)); intro gb296 hg w6 hbox hb; have BK296 := As_ (hbox); have hW_ := bel_ w hb (by repeat (first | (with_reducible first | exact HB.out | apply ba_ | apply bn_ | apply bd_) | exact HB.out)); have GE296 := As_ (gesz hg hW_); replace HB := As_ (below_step hW_ hb); clear hW_ hb hbox hg) | ((with_reducible refine gate_dst (N := 3) rfl ?_); refine box_event rfl (N := 3) rfl (cs := #[.int .i64 a1_0, .int .i64 a1_1, .int .i64 a1_2]) (t := 87) ?hr ?_; (case hr => first | (go_simp; done) | (go_simp; rfl)); intro gb297 hg w7 hbox hb; have BK297 := As_ (hbox); have hW_ := bel_ w hb (by repeat (first | (with_reducible first | exact HB.out | apply ba_ | apply bn_ | apply bd_ | refine bs_ ?_ GE296.out) | exact HB.out)); have GE297 := As_ (gesz hg hW_); have NB296_297 := As_ (ne_lt hg BK296.out); have NB297_296 := As_ (ne_gt hg BK296.out); replace BK296 := As_ (blk_b hb BK296.out); replace HB := As_ (below_step hW_ hb); clear hW_ hb hbox hg; have hnb8 := NB296_297.out; have hnc8 := NB297_296.out; obtain ⟨hcz9_0, hcz9_1, hcz9_2⟩ := c3_ (w := w7) BK296.out; obtain ⟨hfz9_0, hfz9_1, hfz9_2⟩ := z3_ BK296.out; obtain ⟨hcz10_0, hcz10_1, hcz10_2⟩ := c3_ (w := w7) BK297.out; obtain ⟨hfz10_0, hfz10_1, hfz10_2⟩ := z3_ BK297.out))
    go_ret
    exact ⟨by first | rfl | (simp <;> rfl) | (simp [*] <;> rfl), by repeat (first | (with_reducible first | exact HB.out | apply ba_ | apply bn_ | apply bd_ | refine below_setA ?_ (by assumption)) | exact HB.out)⟩
   ·
    rw [if_neg c5] at H
    have c5b0 : decide (a0_1 < (wrap64 (a1_1 + a1_2))) = false := decide_eq_false c5
    clear c5
    obtain rfl := Option.some.inj H
    go_enter Try.func86, Try.ntmps86
    go_wp2_with (first | ((with_reducible refine gate_dst (N := 2) rfl ?_); refine box_event rfl (N := 2) rfl (cs := #[.int .i64 a0_0, .int .i64 a0_1, .int .i64 a0_2]) (t := 87) ?hr ?_; (case hr => first | (go_simp; done) | (go_simp; rfl)); intro gb296 hg w11 hbox hb; have BK296 := As_ (hbox); have hW_ := bel_ w hb (by repeat (first | (with_reducible first | exact HB.out | apply ba_ | apply bn_ | apply bd_) | exact HB.out)); have GE296 := As_ (gesz hg hW_); replace HB := As_ (below_step hW_ hb); clear hW_ hb hbox hg) | ((with_reducible refine gate_dst (N := 3) rfl ?_); refine box_event rfl (N := 3) rfl (cs := #[.int .i64 a1_0, .int .i64 a1_1, .int .i64 a1_2]) (t := 87) ?hr ?_; (case hr => first | (go_simp; done) | (go_simp; rfl)); intro gb297 hg w12 hbox hb; have BK297 := As_ (hbox); have hW_ := bel_ w hb (by repeat (first | (with_reducible first | exact HB.out | apply ba_ | apply bn_ | apply bd_ | refine bs_ ?_ GE296.out) | exact HB.out)); have GE297 := As_ (gesz hg hW_); have NB296_297 := As_ (ne_lt hg BK296.out); have NB297_296 := As_ (ne_gt hg BK296.out); replace BK296 := As_ (blk_b hb BK296.out); replace HB := As_ (below_step hW_ hb); clear hW_ hb hbox hg; have hnb13 := NB296_297.out; have hnc13 := NB297_296.out; obtain ⟨hcz14_0, hcz14_1, hcz14_2⟩ := c3_ (w := w12) BK296.out; obtain ⟨hfz14_0, hfz14_1, hfz14_2⟩ := z3_ BK296.out; obtain ⟨hcz15_0, hcz15_1, hcz15_2⟩ := c3_ (w := w12) BK297.out; obtain ⟨hfz15_0, hfz15_1, hfz15_2⟩ := z3_ BK297.out))
    go_ret
    exact ⟨by first | rfl | (simp <;> rfl) | (simp [*] <;> rfl), by repeat (first | (with_reducible first | exact HB.out | apply ba_ | apply bn_ | apply bd_ | refine below_setA ?_ (by assumption)) | exact HB.out)⟩
  ·
   rw [if_neg c4] at H
   have c4b0 : decide (a1_0 < (wrap64 (a0_0 + a0_2))) = false := decide_eq_false c4
   clear c4
   obtain rfl := Option.some.inj H
   go_enter Try.func86, Try.ntmps86
   go_wp2_with (first | ((with_reducible refine gate_dst (N := 2) rfl ?_); refine box_event rfl (N := 2) rfl (cs := #[.int .i64 a0_0, .int .i64 a0_1, .int .i64 a0_2]) (t := 87) ?hr ?_; (case hr => first | (go_simp; done) | (go_simp; rfl)); intro gb296 hg w16 hbox hb; have BK296 := As_ (hbox); have hW_ := bel_ w hb (by repeat (first | (with_reducible first | exact HB.out | apply ba_ | apply bn_ | apply bd_) | exact HB.out)); have GE296 := As_ (gesz hg hW_); replace HB := As_ (below_step hW_ hb); clear hW_ hb hbox hg) | ((with_reducible refine gate_dst (N := 3) rfl ?_); refine box_event rfl (N := 3) rfl (cs := #[.int .i64 a1_0, .int .i64 a1_1, .int .i64 a1_2]) (t := 87) ?hr ?_; (case hr => first | (go_simp; done) | (go_simp; rfl)); intro gb297 hg w17 hbox hb; have BK297 := As_ (hbox); have hW_ := bel_ w hb (by repeat (first | (with_reducible first | exact HB.out | apply ba_ | apply bn_ | apply bd_ | refine bs_ ?_ GE296.out) | exact HB.out)); have GE297 := As_ (gesz hg hW_); have NB296_297 := As_ (ne_lt hg BK296.out); have NB297_296 := As_ (ne_gt hg BK296.out); replace BK296 := As_ (blk_b hb BK296.out); replace HB := As_ (below_step hW_ hb); clear hW_ hb hbox hg; have hnb18 := NB296_297.out; have hnc18 := NB297_296.out; obtain ⟨hcz19_0, hcz19_1, hcz19_2⟩ := c3_ (w := w17) BK296.out; obtain ⟨hfz19_0, hfz19_1, hfz19_2⟩ := z3_ BK296.out; obtain ⟨hcz20_0, hcz20_1, hcz20_2⟩ := c3_ (w := w17) BK297.out; obtain ⟨hfz20_0, hfz20_1, hfz20_2⟩ := z3_ BK297.out))
   go_ret
   exact ⟨by first | rfl | (simp <;> rfl) | (simp [*] <;> rfl), by repeat (first | (with_reducible first | exact HB.out | apply ba_ | apply bn_ | apply bd_ | refine below_setA ?_ (by assumption)) | exact HB.out)⟩
 ·
  rw [if_neg c3] at H
  have c3b0 : decide (a0_0 < (wrap64 (a1_0 + a1_2))) = false := decide_eq_false c3
  clear c3
  obtain rfl := Option.some.inj H
  go_enter Try.func86, Try.ntmps86
  go_wp2_with (first | ((with_reducible refine gate_dst (N := 2) rfl ?_); refine box_event rfl (N := 2) rfl (cs := #[.int .i64 a0_0, .int .i64 a0_1, .int .i64 a0_2]) (t := 87) ?hr ?_; (case hr => first | (go_simp; done) | (go_simp; rfl)); intro gb296 hg w21 hbox hb; have BK296 := As_ (hbox); have hW_ := bel_ w hb (by repeat (first | (with_reducible first | exact HB.out | apply ba_ | apply bn_ | apply bd_) | exact HB.out)); have GE296 := As_ (gesz hg hW_); replace HB := As_ (below_step hW_ hb); clear hW_ hb hbox hg) | ((with_reducible refine gate_dst (N := 3) rfl ?_); refine box_event rfl (N := 3) rfl (cs := #[.int .i64 a1_0, .int .i64 a1_1, .int .i64 a1_2]) (t := 87) ?hr ?_; (case hr => first | (go_simp; done) | (go_simp; rfl)); intro gb297 hg w22 hbox hb; have BK297 := As_ (hbox); have hW_ := bel_ w hb (by repeat (first | (with_reducible first | exact HB.out | apply ba_ | apply bn_ | apply bd_ | refine bs_ ?_ GE296.out) | exact HB.out)); have GE297 := As_ (gesz hg hW_); have NB296_297 := As_ (ne_lt hg BK296.out); have NB297_296 := As_ (ne_gt hg BK296.out); replace BK296 := As_ (blk_b hb BK296.out); replace HB := As_ (below_step hW_ hb); clear hW_ hb hbox hg; have hnb23 := NB296_297.out; have hnc23 := NB297_296.out; obtain ⟨hcz24_0, hcz24_1, hcz24_2⟩ := c3_ (w := w22) BK296.out; obtain ⟨hfz24_0, hfz24_1, hfz24_2⟩ := z3_ BK296.out; obtain ⟨hcz25_0, hcz25_1, hcz25_2⟩ := c3_ (w := w22) BK297.out; obtain ⟨hfz25_0, hfz25_1, hfz25_2⟩ := z3_ BK297.out))
  go_ret
  exact ⟨by first | rfl | (simp <;> rfl) | (simp [*] <;> rfl), by repeat (first | (with_reducible first | exact HB.out | apply ba_ | apply bn_ | apply bd_ | refine below_setA ?_ (by assumption)) | exact HB.out)⟩

-- NOT PRINTED: function 85 (impl_IsCut_1)

end Go.Proofs.Ytipiaiolhhnnhaa.PFnExactMakePuzzle
