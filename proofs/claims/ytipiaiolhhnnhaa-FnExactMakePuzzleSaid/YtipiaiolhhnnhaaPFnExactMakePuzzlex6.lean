-- Written by a program of this session (wip/tools/pg.py) out of the translation.
import Derived.Test.YtipiaiolhhnnhaaPFnExactMakePuzzlex0
import Derived.Test.YtipiaiolhhnnhaaPFnExactMakePuzzlex2
namespace Go.Proofs.Ytipiaiolhhnnhaa.PFnExactMakePuzzle
open Go.RowKit Go.Proofs.YtipiaiolhhnnhaaW.PrintWords Go.Proofs.YtipiaiolhhnnhaaW.PrintLast Go.Proofs.YtipiaiolhhnnhaaW.PrintMore Go.Proofs.YtipiaiolhhnnhaaH
attribute [local go_sem] max2_int min2_int max_two min_two max_three min_three max_four min_four   -- for this text's walks alone
set_option linter.unusedVariables false
set_option linter.unusedSimpArgs false

/-! ### spec_l1Most: function 92 -/
def spec_l1Most.f (a0 : Int) (a1 : Int) : Option (Int) := if a0 > a1 then (some a0) else (some a1)
set_option maxHeartbeats 8000000 in
set_option maxRecDepth 100000 in
theorem spec_l1Most.calls (a0 : Int) (a1 : Int) (r : Int) (w : World) (h : spec_l1Most.f a0 a1 = some r) :
  Calls Try.prog 92 #[.int .i64 a0, .int .i64 a1] w fun e w' => e = .returned (.int .i64 r) ∧ Drawn0 w w' := by
 have H : (if a0 > a1 then (some a0) else (some a1)) = some r := h
 clear h
 by_cases c3 : a0 > a1
 ·
  rw [if_pos c3] at H
  have c3b0 : decide (a1 < a0) = true := decide_eq_true c3
  clear c3
  obtain rfl := Option.some.inj H
  go_enter Try.func92, Try.ntmps92
  go_wp2
  go_ret
  exact ⟨by first | rfl | (simp; done) | (simp [*]; done), by repeat (first | exact Drawn0.refl _ | apply Drawn0.step)⟩
 ·
  rw [if_neg c3] at H
  have c3b0 : decide (a1 < a0) = false := decide_eq_false c3
  clear c3
  obtain rfl := Option.some.inj H
  go_enter Try.func92, Try.ntmps92
  go_wp2
  go_ret
  exact ⟨by first | rfl | (simp; done) | (simp [*]; done), by repeat (first | exact Drawn0.refl _ | apply Drawn0.step)⟩

/-! ### spec_cuLine: function 93 -/
mutual
def spec_cuLine.l0 : Nat → Int → Int → Int → Int → List (S87) → Option (Int)
 | 0, _, _, _, _, _ => none
 | k + 1, x3, x4, x167000, x167001, x167002 => if x4 < x167001 then (spec_cuLine.l1 k x3 x4 0 0 x167000 x167001 x167002) else (some x3)
def spec_cuLine.l1 : Nat → Int → Int → Int → Int → Int → Int → List (S87) → Option (Int)
 | 0, _, _, _, _, _, _, _ => none
 | k + 1, x3, x4, x5, x6, x167000, x167001, x167002 => if x6 < x167000 then (spec_cuLine.l2 k x3 x4 (wrap64 (x5 + 1)) x6 x167002 (x167002.length : Int) 0 x167000 x167001 x167002) else (spec_cuLine.l0 k x3 (wrap64 (x4 + 1)) x167000 x167001 x167002)
def spec_cuLine.l2 : Nat → Int → Int → Int → Int → List (S87) → Int → Int → Int → Int → List (S87) → Option (Int)
 | 0, _, _, _, _, _, _, _, _, _, _ => none
 | k + 1, x3, x4, x5, x6, x24, x25, x26, x167000, x167001, x167002 => if x26 < x25 then (if 0 ≤ x26 then (if x26 < (x24.length : Int) then (if ((rd_T87 x24 x26).f1) < x4 then (if x4 < (wrap64 (((rd_T87 x24 x26).f1) + ((rd_T87 x24 x26).f2))) then ((spec_l1In.f x6 ((rd_T87 x24 x26).f0) (wrap64 ((wrap64 (((rd_T87 x24 x26).f0) + ((rd_T87 x24 x26).f2))) - 1))).bind fun t169 => (if t169 = true then (spec_cuLine.l2 k x3 x4 0 x6 x24 x25 (wrap64 (x26 + 1)) x167000 x167001 x167002) else (spec_cuLine.l2 k x3 x4 x5 x6 x24 x25 (wrap64 (x26 + 1)) x167000 x167001 x167002))) else (spec_cuLine.l2 k x3 x4 x5 x6 x24 x25 (wrap64 (x26 + 1)) x167000 x167001 x167002)) else (spec_cuLine.l2 k x3 x4 x5 x6 x24 x25 (wrap64 (x26 + 1)) x167000 x167001 x167002)) else (none)) else (none)) else ((spec_l1Most.f x3 x5).bind fun t170 => (spec_cuLine.l1 k t170 x4 x5 (wrap64 (x6 + 1)) x167000 x167001 x167002))
end
def spec_cuLine.f (k : Nat) (a0_0 : Int) (a0_1 : Int) (l0_2 : List (S87)) : Option (Int) := spec_cuLine.l0 k 0 1 a0_0 a0_1 l0_2
theorem spec_cuLine.mono_l : ∀ k, (∀ y0 y1 y2 y3 y4, LeO (spec_cuLine.l0 k y0 y1 y2 y3 y4) (spec_cuLine.l0 (k + 1) y0 y1 y2 y3 y4)) ∧ (∀ y0 y1 y2 y3 y4 y5 y6, LeO (spec_cuLine.l1 k y0 y1 y2 y3 y4 y5 y6) (spec_cuLine.l1 (k + 1) y0 y1 y2 y3 y4 y5 y6)) ∧ (∀ y0 y1 y2 y3 y4 y5 y6 y7 y8 y9, LeO (spec_cuLine.l2 k y0 y1 y2 y3 y4 y5 y6 y7 y8 y9) (spec_cuLine.l2 (k + 1) y0 y1 y2 y3 y4 y5 y6 y7 y8 y9))
 | 0 => ⟨fun _ _ _ _ _ r h => by simp [spec_cuLine.l0] at h, fun _ _ _ _ _ _ _ r h => by simp [spec_cuLine.l1] at h, fun _ _ _ _ _ _ _ _ _ _ r h => by simp [spec_cuLine.l2] at h⟩
 | k + 1 => by
  obtain ⟨ih0, ih1, ih2⟩ := spec_cuLine.mono_l k
  refine ⟨?_, ?_, ?_⟩
  ·
   intro y0 y1 y2 y3 y4
   unfold spec_cuLine.l0
   repeat' first
   | (with_reducible exact ih0 _ _ _ _ _)
   | (with_reducible exact ih1 _ _ _ _ _ _ _)
   | (with_reducible exact ih2 _ _ _ _ _ _ _ _ _ _)
   | (with_reducible exact LeO.refl _)
   | (with_reducible exact LeO.none _)
   | (with_reducible refine LeO.ite ?_ ?_)
   | (with_reducible refine LeO.bind ?_ (fun _ => ?_))
   | exact ih0 _ _ _ _ _
   | exact ih1 _ _ _ _ _ _ _
   | exact ih2 _ _ _ _ _ _ _ _ _ _
   | exact LeO.none _
   | refine LeO.ite ?_ ?_
   | refine LeO.bind ?_ (fun _ => ?_)
  ·
   intro y0 y1 y2 y3 y4 y5 y6
   unfold spec_cuLine.l1
   repeat' first
   | (with_reducible exact ih0 _ _ _ _ _)
   | (with_reducible exact ih1 _ _ _ _ _ _ _)
   | (with_reducible exact ih2 _ _ _ _ _ _ _ _ _ _)
   | (with_reducible exact LeO.refl _)
   | (with_reducible exact LeO.none _)
   | (with_reducible refine LeO.ite ?_ ?_)
   | (with_reducible refine LeO.bind ?_ (fun _ => ?_))
   | exact ih0 _ _ _ _ _
   | exact ih1 _ _ _ _ _ _ _
   | exact ih2 _ _ _ _ _ _ _ _ _ _
   | exact LeO.none _
   | refine LeO.ite ?_ ?_
   | refine LeO.bind ?_ (fun _ => ?_)
  ·
   intro y0 y1 y2 y3 y4 y5 y6 y7 y8 y9
   unfold spec_cuLine.l2
   repeat' first
   | (with_reducible exact ih0 _ _ _ _ _)
   | (with_reducible exact ih1 _ _ _ _ _ _ _)
   | (with_reducible exact ih2 _ _ _ _ _ _ _ _ _ _)
   | (with_reducible exact LeO.refl _)
   | (with_reducible exact LeO.none _)
   | (with_reducible refine LeO.ite ?_ ?_)
   | (with_reducible refine LeO.bind ?_ (fun _ => ?_))
   | exact ih0 _ _ _ _ _
   | exact ih1 _ _ _ _ _ _ _
   | exact ih2 _ _ _ _ _ _ _ _ _ _
   | exact LeO.none _
   | refine LeO.ite ?_ ?_
   | refine LeO.bind ?_ (fun _ => ?_)
theorem spec_cuLine.mono : ∀ a0 a1 a2 k, LeO (spec_cuLine.f k a0 a1 a2) (spec_cuLine.f (k + 1) a0 a1 a2) := by
 intro a0 a1 a2 k
 obtain ⟨ih0, ih1, ih2⟩ := spec_cuLine.mono_l k
 unfold spec_cuLine.f
 repeat' first
   | (with_reducible exact ih0 _ _ _ _ _)
   | (with_reducible exact ih1 _ _ _ _ _ _ _)
   | (with_reducible exact ih2 _ _ _ _ _ _ _ _ _ _)
   | (with_reducible exact LeO.refl _)
   | (with_reducible exact LeO.none _)
   | (with_reducible refine LeO.ite ?_ ?_)
   | (with_reducible refine LeO.bind ?_ (fun _ => ?_))
   | exact ih0 _ _ _ _ _
   | exact ih1 _ _ _ _ _ _ _
   | exact ih2 _ _ _ _ _ _ _ _ _ _
   | exact LeO.none _
   | refine LeO.ite ?_ ?_
   | refine LeO.bind ?_ (fun _ => ?_)
set_option maxHeartbeats 8000000 in
set_option maxRecDepth 100000 in
theorem spec_cuLine.calls (k : Nat) (a0_0 : Int) (a0_1 : Int) (A0_2 : Option Addr) (c0_2 : Nat) (l0_2 : List (S87)) (r : Int) (w : World) (hr0_2 : Kd.C k87 w A0_2 l0_2.length l0_2) (hc0_2 : l0_2.length ≤ c0_2) (h : spec_cuLine.f k a0_0 a0_1 l0_2 = some r) :
  Calls Try.prog 93 #[.agg #[.int .i64 a0_0, .int .i64 a0_1, .slice A0_2 l0_2.length c0_2]] w fun e w' => e = .returned (.int .i64 r) ∧ Below w.heap.size w w' := by
 have hu31 := Try.underlying31
 have hu87 := Try.underlying87
 have HR0_2 := As_ hr0_2
 have HC0_2 := As_ hc0_2
 clear hr0_2 hc0_2
 have HB := As_ (Below.refl w.heap.size w)
 have H : (spec_cuLine.l0 k 0 1 a0_0 a0_1 l0_2) = some r := h
 clear h
 have H' := As_ H
 clear H
 go_enter Try.func93, Try.ntmps93
 go_wp2_with (first | ((with_reducible refine gate_dst (N := 1) rfl ?_); refine box_event rfl (N := 1) rfl (cs := #[.int .i64 a0_0, .int .i64 a0_1, .slice A0_2 l0_2.length c0_2]) (t := 31) ?hr ?_; (case hr => first | (go_simp; done) | (go_simp; rfl)); intro gb166 hg w2 hbox hb; have BK166 := As_ (hbox); have hW_ := bel_ w hb (by repeat (first | (with_reducible first | exact HB.out | apply ba_ | apply bn_ | apply bd_) | exact HB.out)); have GE166 := As_ (gesz hg hW_); replace HB := As_ (below_step hW_ hb); clear hW_ hb hbox hg))
 go_loopg [3, 4] k (fun kq v3 v4 w' => ∃ (x3_1 : Int) (x4_1 : Int), v3 = .int .i64 x3_1 ∧ v4 = .int .i64 x4_1 ∧ Aside0 (spec_cuLine.l0 kq x3_1 x4_1 a0_0 a0_1 l0_2 = some r) ∧ Aside0 (kq ≤ k) ∧ Aside0 (w'.heap[gb166]? = some (.cells #[.int .i64 a0_0, .int .i64 a0_1, (.slice A0_2 l0_2.length c0_2)] 31 (0, 0))) ∧ Aside0 (Below w.heap.size w w'))
 case atStart => exact ⟨(0), (1), (by first | rfl | (simp; done) | (simp [*]; done)), (by first | rfl | (simp; done) | (simp [*]; done)), H', ⟨Nat.le_refl _⟩, ⟨by (with_reducible repeat (first | refine kn_ ?_ _ | refine kd_ ?_ | refine ka_ ?_ _)); exact BK166.out⟩, ⟨by repeat (first | (with_reducible first | exact HB.out | apply ba_ | apply bn_ | apply bd_ | refine bs_ ?_ GE166.out) | exact HB.out)⟩⟩
 case round =>
  clear H'
  try clear p2
  obtain ⟨x3_1, x4_1, rfl, rfl, HA, HK1, BK166, HB⟩ := hrel
  rcases gk with _ | k1
  · exact absurd HA.out (by simp [spec_cuLine.l0])
  have H := HA.out
  clear HA
  simp only [spec_cuLine.l0] at H
  by_cases c3 : x4_1 < a0_1
  ·
   rw [if_pos c3] at H
   have c3b0 : decide (x4_1 < a0_1) = true := decide_eq_true c3
   clear c3
   have H' := As_ H
   clear H
   obtain ⟨hcz4_0, hcz4_1, hcz4_2⟩ := c3_ (w := wr) BK166.out
   obtain ⟨hfz4_0, hfz4_1, hfz4_2⟩ := z3_ BK166.out
   go_wp2
   go_loopg [3, 5, 6] k1 (fun kq v3 v5 v6 w' => ∃ (x3_2 : Int) (x5_2 : Int) (x6_2 : Int), v3 = .int .i64 x3_2 ∧ v5 = .int .i64 x5_2 ∧ v6 = .int .i64 x6_2 ∧ Aside0 (spec_cuLine.l1 kq x3_2 x4_1 x5_2 x6_2 a0_0 a0_1 l0_2 = some r) ∧ Aside0 (kq ≤ k1) ∧ Aside0 (w'.heap[gb166]? = some (.cells #[.int .i64 a0_0, .int .i64 a0_1, (.slice A0_2 l0_2.length c0_2)] 31 (0, 0))) ∧ Aside0 (Below w.heap.size w w'))
   case atStart => exact ⟨(x3_1), (0), (0), (by first | rfl | (simp; done) | (simp [*]; done)), (by first | rfl | (simp; done) | (simp [*]; done)), (by first | rfl | (simp; done) | (simp [*]; done)), H', ⟨Nat.le_refl _⟩, ⟨by (with_reducible repeat (first | refine kn_ ?_ _ | refine kd_ ?_ | refine ka_ ?_ _)); exact BK166.out⟩, ⟨by repeat (first | (with_reducible first | exact HB.out | apply ba_ | apply bn_ | apply bd_ | refine bs_ ?_ GE166.out) | exact HB.out)⟩⟩
   case round =>
    clear H'
    try clear p2; try clear c3; try clear c3b0; try clear hcz4_0 hcz4_1 hcz4_2; try clear hfz4_0 hfz4_1 hfz4_2; try clear p2
    obtain ⟨x3_2, x5_2, x6_2, rfl, rfl, rfl, HA, HK2, BK166, HB⟩ := hrel
    rcases gk with _ | k2
    · exact absurd HA.out (by simp [spec_cuLine.l1])
    have H := HA.out
    clear HA
    simp only [spec_cuLine.l1] at H
    by_cases c5 : x6_2 < a0_0
    ·
     rw [if_pos c5] at H
     have c5b0 : decide (x6_2 < a0_0) = true := decide_eq_true c5
     clear c5
     have H' := As_ H
     clear H
     obtain ⟨hcz6_0, hcz6_1, hcz6_2⟩ := c3_ (w := wr) BK166.out
     obtain ⟨hfz6_0, hfz6_1, hfz6_2⟩ := z3_ BK166.out
     go_wp2
     go_loopg [5, 26] k2 (fun kq v5 v26 w' => ∃ (x5_3 : Int) (x26_3 : Int), v5 = .int .i64 x5_3 ∧ v26 = .int .i64 x26_3 ∧ Aside0 (spec_cuLine.l2 kq x3_2 x4_1 x5_3 x6_2 l0_2 (l0_2.length : Int) x26_3 a0_0 a0_1 l0_2 = some r) ∧ Aside0 (kq ≤ k2) ∧ Aside0 (w'.heap[gb166]? = some (.cells #[.int .i64 a0_0, .int .i64 a0_1, (.slice A0_2 l0_2.length c0_2)] 31 (0, 0))) ∧ Aside0 (Below w.heap.size w w'))
     case atStart => exact ⟨(wrap64 (x5_2 + 1)), (0), (by first | rfl | (simp; done) | (simp [*]; done)), (by first | rfl | (simp; done) | (simp [*]; done)), H', ⟨Nat.le_refl _⟩, ⟨by (with_reducible repeat (first | refine kn_ ?_ _ | refine kd_ ?_ | refine ka_ ?_ _)); exact BK166.out⟩, ⟨by repeat (first | (with_reducible first | exact HB.out | apply ba_ | apply bn_ | apply bd_ | refine bs_ ?_ GE166.out) | exact HB.out)⟩⟩
     case round =>
      clear H'
      try clear p2; try clear c3; try clear c3b0; try clear c5; try clear c5b0; try clear p6; try clear hcz4_0 hcz4_1 hcz4_2; try clear hcz6_0 hcz6_1 hcz6_2; try clear hfz4_0 hfz4_1 hfz4_2; try clear hfz6_0 hfz6_1 hfz6_2; try clear p2
      obtain ⟨x5_3, x26_3, rfl, rfl, HA, HK3, BK166, HB⟩ := hrel
      rcases gk with _ | k3
      · exact absurd HA.out (by simp [spec_cuLine.l2])
      have H := HA.out
      clear HA
      simp only [spec_cuLine.l2] at H
      by_cases c7 : x26_3 < (l0_2.length : Int)
      ·
       rw [if_pos c7] at H
       have c7b0 : decide (x26_3 < (l0_2.length : Int)) = true := decide_eq_true c7
       clear c7
       by_cases c8 : 0 ≤ x26_3
       case neg => rw [if_neg c8] at H; exact absurd H (by simp)
       rw [if_pos c8] at H
       have c8b0 : decide (0 ≤ x26_3) = true := decide_eq_true c8
       clear c8
       by_cases c9 : x26_3 < (l0_2.length : Int)
       case neg => rw [if_neg c9] at H; exact absurd H (by simp)
       rw [if_pos c9] at H
       have c9b0 : decide (x26_3 < (l0_2.length : Int)) = true := decide_eq_true c9
       clear c9
       by_cases c10 : ((rd_T87 l0_2 x26_3).f1) < x4_1
       ·
        rw [if_pos c10] at H
        have c10b0 : decide (((rd_T87 l0_2 x26_3).f1) < x4_1) = true := decide_eq_true c10
        clear c10
        by_cases c11 : x4_1 < (wrap64 (((rd_T87 l0_2 x26_3).f1) + ((rd_T87 l0_2 x26_3).f2)))
        ·
         rw [if_pos c11] at H
         have c11b0 : decide (x4_1 < (wrap64 (((rd_T87 l0_2 x26_3).f1) + ((rd_T87 l0_2 x26_3).f2)))) = true := decide_eq_true c11
         clear c11
         replace H := Option.bind_eq_some_iff.mp H
         obtain ⟨t169, A120, H⟩ := H
         try dsimp only at H
         have A12 := As_ A120
         clear A120
         by_cases c13 : t169 = true
         ·
          subst c13
          have H1 : (spec_cuLine.l2 k3 x3_2 x4_1 0 x6_2 l0_2 (l0_2.length : Int) (wrap64 (x26_3 + 1)) a0_0 a0_1 l0_2) = some r := by rw [if_pos rfl] at H; exact H
          clear H
          have H := H1
          clear H1
          have H' := As_ H
          clear H
          have p167 : 0 ≤ (x26_3 : Int) := of_decide_eq_true (by first | (with_reducible assumption) | assumption)
          have q167 : x26_3 < (l0_2.length : Int) := of_decide_eq_true (by first | (with_reducible assumption) | assumption)
          obtain ⟨ad167, e167, hx167_0, hx167_1, hx167_2⟩ := at_T87 HR0_2.out x26_3 p167 q167
          cases e167
          replace hx167_0 := pw_cell_below HB.out hx167_0
          replace hx167_1 := pw_cell_below HB.out hx167_1
          replace hx167_2 := pw_cell_below HB.out hx167_2
          replace p167 := eq_true p167
          replace q167 := eq_true q167
          go_wp2_with (first | ((with_reducible refine gate_dst (N := 8) rfl ?_); refine box_event rfl (N := 8) rfl (cs := #[.int .i64 0, .int .i64 0, .int .i64 0]) (t := 87) ?hr ?_; (case hr => first | (go_simp; done) | (go_simp; rfl)); intro gb168 hg w14 hbox hb; have BK168 := As_ (hbox); have hW_ := bel_ w hb (by repeat (first | (with_reducible first | exact HB.out | apply ba_ | apply bn_ | apply bd_ | refine bs_ ?_ GE166.out) | exact HB.out)); have GE168 := As_ (gesz hg hW_); have NB166_168 := As_ (ne_lt hg BK166.out); have NB168_166 := As_ (ne_gt hg BK166.out); replace BK166 := As_ (blk_b hb BK166.out); replace HB := As_ (below_step hW_ hb); clear hW_ hb hbox hg; have hnb15 := NB168_166.out; have hnc15 := NB166_168.out; obtain ⟨hcz16_0, hcz16_1, hcz16_2⟩ := c3_ (w := w14) BK168.out; obtain ⟨hfz16_0, hfz16_1, hfz16_2⟩ := z3_ BK168.out) | (go_at_call 42; (with_reducible refine (spec_l1In.calls x6_2 ((rd_T87 l0_2 x26_3).f0) (wrap64 ((wrap64 (((rd_T87 l0_2 x26_3).f0) + ((rd_T87 l0_2 x26_3).f2))) - 1)) true _ A12.out).mono ?_); rintro e w' ⟨rfl, ⟨nd, rfl⟩⟩))
          go_roundg k3
          case measure => have := HK1.out; have := HK2.out; have := HK3.out; omega
          case rel => exact ⟨(0), (wrap64 (x26_3 + 1)), (by first | rfl | (simp; done) | (simp [*]; done)), (by first | rfl | (simp; done) | (simp [*]; done)), H', ⟨by have := HK1.out; have := HK2.out; have := HK3.out; omega⟩, ⟨by (with_reducible repeat (first | refine kn_ ?_ _ | refine kd_ ?_ | refine ka_ ?_ _)); refine blk_far ?_ NB166_168.out _; refine blk_far ?_ NB166_168.out _; refine blk_far ?_ NB166_168.out _; (with_reducible repeat (first | refine kn_ ?_ _ | refine kd_ ?_ | refine ka_ ?_ _)); exact BK166.out⟩, ⟨by repeat (first | (with_reducible first | exact HB.out | apply ba_ | apply bn_ | apply bd_ | refine below_setA ?_ (by assumption)) | exact HB.out)⟩⟩
         ·
          replace c13 := Bool.eq_false_iff.mpr c13
          subst c13
          have H1 : (spec_cuLine.l2 k3 x3_2 x4_1 x5_3 x6_2 l0_2 (l0_2.length : Int) (wrap64 (x26_3 + 1)) a0_0 a0_1 l0_2) = some r := by rw [if_neg (show ¬ (false = true) by decide)] at H; exact H
          clear H
          have H := H1
          clear H1
          have H' := As_ H
          clear H
          have p167 : 0 ≤ (x26_3 : Int) := of_decide_eq_true (by first | (with_reducible assumption) | assumption)
          have q167 : x26_3 < (l0_2.length : Int) := of_decide_eq_true (by first | (with_reducible assumption) | assumption)
          obtain ⟨ad167, e167, hx167_0, hx167_1, hx167_2⟩ := at_T87 HR0_2.out x26_3 p167 q167
          cases e167
          replace hx167_0 := pw_cell_below HB.out hx167_0
          replace hx167_1 := pw_cell_below HB.out hx167_1
          replace hx167_2 := pw_cell_below HB.out hx167_2
          replace p167 := eq_true p167
          replace q167 := eq_true q167
          go_wp2_with (first | ((with_reducible refine gate_dst (N := 8) rfl ?_); refine box_event rfl (N := 8) rfl (cs := #[.int .i64 0, .int .i64 0, .int .i64 0]) (t := 87) ?hr ?_; (case hr => first | (go_simp; done) | (go_simp; rfl)); intro gb168 hg w17 hbox hb; have BK168 := As_ (hbox); have hW_ := bel_ w hb (by repeat (first | (with_reducible first | exact HB.out | apply ba_ | apply bn_ | apply bd_ | refine bs_ ?_ GE166.out) | exact HB.out)); have GE168 := As_ (gesz hg hW_); have NB166_168 := As_ (ne_lt hg BK166.out); have NB168_166 := As_ (ne_gt hg BK166.out); replace BK166 := As_ (blk_b hb BK166.out); replace HB := As_ (below_step hW_ hb); clear hW_ hb hbox hg; have hnb18 := NB168_166.out; have hnc18 := NB166_168.out; obtain ⟨hcz19_0, hcz19_1, hcz19_2⟩ := c3_ (w := w17) BK168.out; obtain ⟨hfz19_0, hfz19_1, hfz19_2⟩ := z3_ BK168.out) | (go_at_call 42; (with_reducible refine (spec_l1In.calls x6_2 ((rd_T87 l0_2 x26_3).f0) (wrap64 ((wrap64 (((rd_T87 l0_2 x26_3).f0) + ((rd_T87 l0_2 x26_3).f2))) - 1)) false _ A12.out).mono ?_); rintro e w' ⟨rfl, ⟨nd, rfl⟩⟩))
          go_roundg k3
          case measure => have := HK1.out; have := HK2.out; have := HK3.out; omega
          case rel => exact ⟨(x5_3), (wrap64 (x26_3 + 1)), (by first | rfl | (simp; done) | (simp [*]; done)), (by first | rfl | (simp; done) | (simp [*]; done)), H', ⟨by have := HK1.out; have := HK2.out; have := HK3.out; omega⟩, ⟨by (with_reducible repeat (first | refine kn_ ?_ _ | refine kd_ ?_ | refine ka_ ?_ _)); refine blk_far ?_ NB166_168.out _; refine blk_far ?_ NB166_168.out _; refine blk_far ?_ NB166_168.out _; (with_reducible repeat (first | refine kn_ ?_ _ | refine kd_ ?_ | refine ka_ ?_ _)); exact BK166.out⟩, ⟨by repeat (first | (with_reducible first | exact HB.out | apply ba_ | apply bn_ | apply bd_ | refine below_setA ?_ (by assumption)) | exact HB.out)⟩⟩
        ·
         rw [if_neg c11] at H
         have c11b0 : decide (x4_1 < (wrap64 (((rd_T87 l0_2 x26_3).f1) + ((rd_T87 l0_2 x26_3).f2)))) = false := decide_eq_false c11
         clear c11
         have H' := As_ H
         clear H
         have p167 : 0 ≤ (x26_3 : Int) := of_decide_eq_true (by first | (with_reducible assumption) | assumption)
         have q167 : x26_3 < (l0_2.length : Int) := of_decide_eq_true (by first | (with_reducible assumption) | assumption)
         obtain ⟨ad167, e167, hx167_0, hx167_1, hx167_2⟩ := at_T87 HR0_2.out x26_3 p167 q167
         cases e167
         replace hx167_0 := pw_cell_below HB.out hx167_0
         replace hx167_1 := pw_cell_below HB.out hx167_1
         replace hx167_2 := pw_cell_below HB.out hx167_2
         replace p167 := eq_true p167
         replace q167 := eq_true q167
         go_wp2_with (first | ((with_reducible refine gate_dst (N := 8) rfl ?_); refine box_event rfl (N := 8) rfl (cs := #[.int .i64 0, .int .i64 0, .int .i64 0]) (t := 87) ?hr ?_; (case hr => first | (go_simp; done) | (go_simp; rfl)); intro gb168 hg w20 hbox hb; have BK168 := As_ (hbox); have hW_ := bel_ w hb (by repeat (first | (with_reducible first | exact HB.out | apply ba_ | apply bn_ | apply bd_ | refine bs_ ?_ GE166.out) | exact HB.out)); have GE168 := As_ (gesz hg hW_); have NB166_168 := As_ (ne_lt hg BK166.out); have NB168_166 := As_ (ne_gt hg BK166.out); replace BK166 := As_ (blk_b hb BK166.out); replace HB := As_ (below_step hW_ hb); clear hW_ hb hbox hg; have hnb21 := NB168_166.out; have hnc21 := NB166_168.out; obtain ⟨hcz22_0, hcz22_1, hcz22_2⟩ := c3_ (w := w20) BK168.out; obtain ⟨hfz22_0, hfz22_1, hfz22_2⟩ := z3_ BK168.out))
         go_roundg k3
         case measure => have := HK1.out; have := HK2.out; have := HK3.out; omega
         case rel => exact ⟨(x5_3), (wrap64 (x26_3 + 1)), (by first | rfl | (simp; done) | (simp [*]; done)), (by first | rfl | (simp; done) | (simp [*]; done)), H', ⟨by have := HK1.out; have := HK2.out; have := HK3.out; omega⟩, ⟨by (with_reducible repeat (first | refine kn_ ?_ _ | refine kd_ ?_ | refine ka_ ?_ _)); refine blk_far ?_ NB166_168.out _; refine blk_far ?_ NB166_168.out _; refine blk_far ?_ NB166_168.out _; (with_reducible repeat (first | refine kn_ ?_ _ | refine kd_ ?_ | refine ka_ ?_ _)); exact BK166.out⟩, ⟨by repeat (first | (with_reducible first | exact HB.out | apply ba_ | apply bn_ | apply bd_ | refine below_setA ?_ (by assumption)) | exact HB.out)⟩⟩
       ·
        rw [if_neg c10] at H
        have c10b0 : decide (((rd_T87 l0_2 x26_3).f1) < x4_1) = false := decide_eq_false c10
        clear c10
        have H' := As_ H
        clear H
        have p167 : 0 ≤ (x26_3 : Int) := of_decide_eq_true (by first | (with_reducible assumption) | assumption)
        have q167 : x26_3 < (l0_2.length : Int) := of_decide_eq_true (by first | (with_reducible assumption) | assumption)
        obtain ⟨ad167, e167, hx167_0, hx167_1, hx167_2⟩ := at_T87 HR0_2.out x26_3 p167 q167
        cases e167
        replace hx167_0 := pw_cell_below HB.out hx167_0
        replace hx167_1 := pw_cell_below HB.out hx167_1
        replace hx167_2 := pw_cell_below HB.out hx167_2
        replace p167 := eq_true p167
        replace q167 := eq_true q167
        go_wp2_with (first | ((with_reducible refine gate_dst (N := 8) rfl ?_); refine box_event rfl (N := 8) rfl (cs := #[.int .i64 0, .int .i64 0, .int .i64 0]) (t := 87) ?hr ?_; (case hr => first | (go_simp; done) | (go_simp; rfl)); intro gb168 hg w23 hbox hb; have BK168 := As_ (hbox); have hW_ := bel_ w hb (by repeat (first | (with_reducible first | exact HB.out | apply ba_ | apply bn_ | apply bd_ | refine bs_ ?_ GE166.out) | exact HB.out)); have GE168 := As_ (gesz hg hW_); have NB166_168 := As_ (ne_lt hg BK166.out); have NB168_166 := As_ (ne_gt hg BK166.out); replace BK166 := As_ (blk_b hb BK166.out); replace HB := As_ (below_step hW_ hb); clear hW_ hb hbox hg; have hnb24 := NB168_166.out; have hnc24 := NB166_168.out; obtain ⟨hcz25_0, hcz25_1, hcz25_2⟩ := c3_ (w := w23) BK168.out; obtain ⟨hfz25_0, hfz25_1, hfz25_2⟩ := z3_ BK168.out))
        go_roundg k3
        case measure => have := HK1.out; have := HK2.out; have := HK3.out; omega
        case rel => exact ⟨(x5_3), (wrap64 (x26_3 + 1)), (by first | rfl | (simp; done) | (simp [*]; done)), (by first | rfl | (simp; done) | (simp [*]; done)), H', ⟨by have := HK1.out; have := HK2.out; have := HK3.out; omega⟩, ⟨by (with_reducible repeat (first | refine kn_ ?_ _ | refine kd_ ?_ | refine ka_ ?_ _)); refine blk_far ?_ NB166_168.out _; refine blk_far ?_ NB166_168.out _; refine blk_far ?_ NB166_168.out _; (with_reducible repeat (first | refine kn_ ?_ _ | refine kd_ ?_ | refine ka_ ?_ _)); exact BK166.out⟩, ⟨by repeat (first | (with_reducible first | exact HB.out | apply ba_ | apply bn_ | apply bd_ | refine below_setA ?_ (by assumption)) | exact HB.out)⟩⟩
      ·
       rw [if_neg c7] at H
       have c7b0 : decide (x26_3 < (l0_2.length : Int)) = false := decide_eq_false c7
       clear c7
       replace H := Option.bind_eq_some_iff.mp H
       obtain ⟨t170, A260, H⟩ := H
       try dsimp only at H
       have A26 := As_ A260
       clear A260
       have H' := As_ H
       clear H
       go_wp2_with (first | ((with_reducible refine gate_callee (f := 92) rfl ?_); refine goesL_ (some 58) rfl rfl Try.func92 (by kernel_rfl) rfl #[.int .i64 x3_2, .int .i64 x5_3] rfl (by (try simp only [List.map_toArray, List.map_cons, List.map_nil]); first | done | rfl | (simp only [List.length_drop, List.length_take]; rfl)) ?_; (with_reducible refine (spec_l1Most.calls x3_2 x5_3 t170 _ A26.out).mono ?_); rintro e w' ⟨rfl, ⟨nd, rfl⟩⟩; refine ⟨_, rfl, ?_⟩))
       go_roundg k3
       case measure => have := HK1.out; have := HK2.out; have := HK3.out; omega
       case rel => exact ⟨(t170), (x5_3), (wrap64 (x6_2 + 1)), (by first | rfl | (simp; done) | (simp [*]; done)), (by first | rfl | (simp; done) | (simp [*]; done)), (by first | rfl | (simp; done) | (simp [*]; done)), H', ⟨by have := HK1.out; have := HK2.out; have := HK3.out; omega⟩, ⟨by (with_reducible repeat (first | refine kn_ ?_ _ | refine kd_ ?_ | refine ka_ ?_ _)); exact BK166.out⟩, ⟨by repeat (first | (with_reducible first | exact HB.out | apply ba_ | apply bn_ | apply bd_ | refine bs_ ?_ GE166.out) | exact HB.out)⟩⟩
    ·
     rw [if_neg c5] at H
     have c5b0 : decide (x6_2 < a0_0) = false := decide_eq_false c5
     clear c5
     have H' := As_ H
     clear H
     obtain ⟨hcz27_0, hcz27_1, hcz27_2⟩ := c3_ (w := wr) BK166.out
     obtain ⟨hfz27_0, hfz27_1, hfz27_2⟩ := z3_ BK166.out
     go_wp2
     go_roundg k2
     case measure => have := HK1.out; have := HK2.out; omega
     case rel => exact ⟨(x3_2), (wrap64 (x4_1 + 1)), (by first | rfl | (simp; done) | (simp [*]; done)), (by first | rfl | (simp; done) | (simp [*]; done)), H', ⟨by have := HK1.out; have := HK2.out; omega⟩, ⟨by (with_reducible repeat (first | refine kn_ ?_ _ | refine kd_ ?_ | refine ka_ ?_ _)); exact BK166.out⟩, ⟨by repeat (first | (with_reducible first | exact HB.out | apply ba_ | apply bn_ | apply bd_ | refine bs_ ?_ GE166.out) | exact HB.out)⟩⟩
  ·
   rw [if_neg c3] at H
   have c3b0 : decide (x4_1 < a0_1) = false := decide_eq_false c3
   clear c3
   obtain rfl := Option.some.inj H
   obtain ⟨hcz28_0, hcz28_1, hcz28_2⟩ := c3_ (w := wr) BK166.out
   obtain ⟨hfz28_0, hfz28_1, hfz28_2⟩ := z3_ BK166.out
   go_wp2
   go_ret
   exact ⟨by first | rfl | (simp <;> rfl) | (simp [*] <;> rfl), by repeat (first | (with_reducible first | exact HB.out | apply ba_ | apply bn_ | apply bd_ | refine bs_ ?_ GE166.out) | exact HB.out)⟩

end Go.Proofs.Ytipiaiolhhnnhaa.PFnExactMakePuzzle
