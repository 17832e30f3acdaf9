-- Written by a program of this session (wip/tools/pg.py) out of the translation.
import Derived.Test.YtipiaiolhhnnhaaPFnExactFillSidesx0
namespace Go.Proofs.Ytipiaiolhhnnhaa.PFnExactFillSides
open Go.RowKit Go.Proofs.YtipiaiolhhnnhaaW.PrintWords Go.Proofs.YtipiaiolhhnnhaaW.PrintLast Go.Proofs.YtipiaiolhhnnhaaW.PrintMore Go.Proofs.YtipiaiolhhnnhaaH
attribute [local go_sem] max2_int min2_int max_two min_two max_three min_three max_four min_four   -- for this text's walks alone
set_option linter.unusedVariables false
set_option linter.unusedSimpArgs false

/-! ### spec_stSides: function 30 -/
mutual
def spec_stSides.l0 : Nat → List (S87) → List (S87) → Int → Int → Option (List Int)
  | 0, _, _, _, _ => none
  | k + 1, x3, x12, x13, x14 => if x14 < x13 then (if 0 ≤ x14 then (if x14 < (x12.length : Int) then (spec_stSides.l1 k x3 (x3.length : Int) x12 x13 x14 ((rd_T87 x12 x14).f0) ((rd_T87 x12 x14).f1) ((rd_T87 x12 x14).f2)) else (none)) else (none)) else (spec_stSides.l2 k ([] : List Int) x3 (x3.length : Int) 0)
def spec_stSides.l1 : Nat → List (S87) → Int → List (S87) → Int → Int → Int → Int → Int → Option (List Int)
  | 0, _, _, _, _, _, _, _, _ => none
  | k + 1, x3, x6, x12, x13, x14, x129000, x129001, x129002 => if x6 > 0 then (if 0 ≤ (wrap64 (x6 - 1)) then (if (wrap64 (x6 - 1)) < (x3.length : Int) then (if x129000 < ((rd_T87 x3 (wrap64 (x6 - 1))).f0) then (spec_stSides.l1 k x3 (wrap64 (x6 - 1)) x12 x13 x14 x129000 x129001 x129002) else (if x129000 = ((rd_T87 x3 (wrap64 (x6 - 1))).f0) then (if x129001 < ((rd_T87 x3 (wrap64 (x6 - 1))).f1) then (spec_stSides.l1 k x3 (wrap64 (x6 - 1)) x12 x13 x14 x129000 x129001 x129002) else ((some (([] : List (S87)) : List (S87))).bind fun y132 => (if 0 ≤ x6 then (if x6 ≤ (x3.length : Int) then ((some (x3.take (x6 : Int).toNat : List (S87))).bind fun y135 => (if y132.length + y135.length < 5864062014805 then ((some (y132 ++ y135 : List (S87))).bind fun y139 => ((some (([(⟨x129000, x129001, x129002⟩ : S87)] : List (S87)) : List (S87))).bind fun y142 => (if y139.length + y142.length < 5864062014805 then ((some (y139 ++ y142 : List (S87))).bind fun y145 => ((some (x3.drop (x6 : Int).toNat : List (S87))).bind fun y148 => (if y145.length + y148.length < 5864062014805 then (spec_stSides.l0 k (y145 ++ y148) x12 x13 (wrap64 (x14 + 1))) else (none)))) else (none)))) else (none))) else (none)) else (none)))) else ((some (([] : List (S87)) : List (S87))).bind fun y155 => (if 0 ≤ x6 then (if x6 ≤ (x3.length : Int) then ((some (x3.take (x6 : Int).toNat : List (S87))).bind fun y158 => (if y155.length + y158.length < 5864062014805 then ((some (y155 ++ y158 : List (S87))).bind fun y162 => ((some (([(⟨x129000, x129001, x129002⟩ : S87)] : List (S87)) : List (S87))).bind fun y165 => (if y162.length + y165.length < 5864062014805 then ((some (y162 ++ y165 : List (S87))).bind fun y168 => ((some (x3.drop (x6 : Int).toNat : List (S87))).bind fun y171 => (if y168.length + y171.length < 5864062014805 then (spec_stSides.l0 k (y168 ++ y171) x12 x13 (wrap64 (x14 + 1))) else (none)))) else (none)))) else (none))) else (none)) else (none))))) else (none)) else (none)) else ((some (([] : List (S87)) : List (S87))).bind fun y178 => (if 0 ≤ x6 then (if x6 ≤ (x3.length : Int) then ((some (x3.take (x6 : Int).toNat : List (S87))).bind fun y181 => (if y178.length + y181.length < 5864062014805 then ((some (y178 ++ y181 : List (S87))).bind fun y185 => ((some (([(⟨x129000, x129001, x129002⟩ : S87)] : List (S87)) : List (S87))).bind fun y188 => (if y185.length + y188.length < 5864062014805 then ((some (y185 ++ y188 : List (S87))).bind fun y191 => ((some (x3.drop (x6 : Int).toNat : List (S87))).bind fun y194 => (if y191.length + y194.length < 5864062014805 then (spec_stSides.l0 k (y191 ++ y194) x12 x13 (wrap64 (x14 + 1))) else (none)))) else (none)))) else (none))) else (none)) else (none)))
def spec_stSides.l2 : Nat → List Int → List (S87) → Int → Int → Option (List Int)
  | 0, _, _, _, _ => none
  | k + 1, x8, x71, x72, x73 => if x73 < x72 then (if 0 ≤ x73 then (if x73 < (x71.length : Int) then ((some (([(rd_T87 x71 x73).f2] : List Int) : List Int)).bind fun y203 => (if x8.length + y203.length < 17592186044416 then (spec_stSides.l2 k (x8 ++ y203) x71 x72 (wrap64 (x73 + 1))) else (none))) else (none)) else (none)) else (some x8)
end
def spec_stSides.f (k : Nat) (a0_0 : Int) (a0_1 : Int) (l0_2 : List (S87)) : Option (List Int) := spec_stSides.l0 k ([] : List (S87)) l0_2 (l0_2.length : Int) 0
theorem spec_stSides.mono_l : ∀ k, (∀ y0 y1 y2 y3, LeO (spec_stSides.l0 k y0 y1 y2 y3) (spec_stSides.l0 (k + 1) y0 y1 y2 y3)) ∧ (∀ y0 y1 y2 y3 y4 y5 y6 y7, LeO (spec_stSides.l1 k y0 y1 y2 y3 y4 y5 y6 y7) (spec_stSides.l1 (k + 1) y0 y1 y2 y3 y4 y5 y6 y7)) ∧ (∀ y0 y1 y2 y3, LeO (spec_stSides.l2 k y0 y1 y2 y3) (spec_stSides.l2 (k + 1) y0 y1 y2 y3))
  | 0 => ⟨fun _ _ _ _ r h => by simp [spec_stSides.l0] at h, fun _ _ _ _ _ _ _ _ r h => by simp [spec_stSides.l1] at h, fun _ _ _ _ r h => by simp [spec_stSides.l2] at h⟩
  | k + 1 => by
    obtain ⟨ih0, ih1, ih2⟩ := spec_stSides.mono_l k
    refine ⟨?_, ?_, ?_⟩
    · intro y0 y1 y2 y3
      unfold spec_stSides.l0
      repeat' first
      | (with_reducible exact ih0 _ _ _ _)
      | (with_reducible exact ih1 _ _ _ _ _ _ _ _)
      | (with_reducible exact ih2 _ _ _ _)
      | (with_reducible exact LeO.refl _)
      | (with_reducible exact LeO.none _)
      | (with_reducible refine LeO.ite ?_ ?_)
      | (with_reducible refine LeO.bind ?_ (fun _ => ?_))
      | exact ih0 _ _ _ _
      | exact ih1 _ _ _ _ _ _ _ _
      | exact ih2 _ _ _ _
      | exact LeO.none _
      | refine LeO.ite ?_ ?_
      | refine LeO.bind ?_ (fun _ => ?_)
    · intro y0 y1 y2 y3 y4 y5 y6 y7
      unfold spec_stSides.l1
      repeat' first
      | (with_reducible exact ih0 _ _ _ _)
      | (with_reducible exact ih1 _ _ _ _ _ _ _ _)
      | (with_reducible exact ih2 _ _ _ _)
      | (with_reducible exact LeO.refl _)
      | (with_reducible exact LeO.none _)
      | (with_reducible refine LeO.ite ?_ ?_)
      | (with_reducible refine LeO.bind ?_ (fun _ => ?_))
      | exact ih0 _ _ _ _
      | exact ih1 _ _ _ _ _ _ _ _
      | exact ih2 _ _ _ _
      | exact LeO.none _
      | refine LeO.ite ?_ ?_
      | refine LeO.bind ?_ (fun _ => ?_)
    · intro y0 y1 y2 y3
      unfold spec_stSides.l2
      repeat' first
      | (with_reducible exact ih0 _ _ _ _)
      | (with_reducible exact ih1 _ _ _ _ _ _ _ _)
      | (with_reducible exact ih2 _ _ _ _)
      | (with_reducible exact LeO.refl _)
      | (with_reducible exact LeO.none _)
      | (with_reducible refine LeO.ite ?_ ?_)
      | (with_reducible refine LeO.bind ?_ (fun _ => ?_))
      | exact ih0 _ _ _ _
      | exact ih1 _ _ _ _ _ _ _ _
      | exact ih2 _ _ _ _
      | exact LeO.none _
      | refine LeO.ite ?_ ?_
      | refine LeO.bind ?_ (fun _ => ?_)
theorem spec_stSides.mono : ∀ a0 a1 a2 k, LeO (spec_stSides.f k a0 a1 a2) (spec_stSides.f (k + 1) a0 a1 a2) := by
  intro a0 a1 a2 k
  obtain ⟨ih0, ih1, ih2⟩ := spec_stSides.mono_l k
  unfold spec_stSides.f
  repeat' first
      | (with_reducible exact ih0 _ _ _ _)
      | (with_reducible exact ih1 _ _ _ _ _ _ _ _)
      | (with_reducible exact ih2 _ _ _ _)
      | (with_reducible exact LeO.refl _)
      | (with_reducible exact LeO.none _)
      | (with_reducible refine LeO.ite ?_ ?_)
      | (with_reducible refine LeO.bind ?_ (fun _ => ?_))
      | exact ih0 _ _ _ _
      | exact ih1 _ _ _ _ _ _ _ _
      | exact ih2 _ _ _ _
      | exact LeO.none _
      | refine LeO.ite ?_ ?_
      | refine LeO.bind ?_ (fun _ => ?_)
def spec_stSides.T6 : Bool × List (List Nat × List Nat) := (true, [([], []), ([0], [0]), ([1], [1]), ([2], [2]), ([3, 2], [2, 3]), ([2], [2]), ([2], [2]), ([6, 2], [2, 6]), ([5, 7, 2], [2, 5, 7]), ([8, 2], [2, 8]), ([9, 2], [2, 9]), ([4, 10, 2], [2, 4, 10]), ([11, 2, 2], [2, 11]), ([12], [12]), ([13, 12], [12, 13]), ([12], [12]), ([12], [12]), ([16, 12], [12, 16]), ([15, 17, 12], [12, 15, 17]), ([18, 12], [12, 18]), ([19, 12], [12, 19]), ([14, 20, 12], [12, 14, 20]), ([21, 12, 12], [12, 21]), ([22], [22]), ([23, 22], [22, 23]), ([22], [22]), ([22], [22]), ([26, 22], [22, 26]), ([25, 27, 22], [22, 25, 27]), ([28, 22], [22, 28]), ([29, 22], [22, 29]), ([24, 30, 22], [22, 24, 30]), ([22, 31, 12], [12, 22, 31]), ([12, 32, 2], [2, 12, 32]), ([2, 33], [2, 33])])
def spec_stSides.B6 : List Nat := [0, 1, 3, 7, 15, 7, 7, 71, 231, 487, 999, 2047, 4095, 8191, 16383, 8191, 8191, 73727, 237567, 499711, 1023999, 2097151, 4194303, 8388607, 16777215, 8388607, 8388607, 75497471, 243269631, 511705087, 1048575999, 2147483647, 4294967295, 8589934591, 17179869183]
theorem spec_stSides.tab6 : rtab .any (opsOf Try.f30 6) = spec_stSides.T6 := by kernel_rfl
theorem spec_stSides.bits6 : waitsOk spec_stSides.T6.2 spec_stSides.B6 = true := by kernel_rfl
def spec_stSides.T8 : Bool × List (List Nat × List Nat) := (true, [([], []), ([], []), ([], []), ([1, 2], [1, 2]), ([0, 3], [0, 3]), ([], []), ([5], [5]), ([4, 6, 4], [4, 6]), ([7, 7, 0, 1, 2, 3, 4, 5, 6, 7], [7])])
def spec_stSides.B8 : List Nat := [0, 0, 0, 6, 15, 0, 32, 127, 255]
theorem spec_stSides.tab8 : rtab .any (opsOf Try.f30 8) = spec_stSides.T8 := by kernel_rfl
theorem spec_stSides.bits8 : waitsOk spec_stSides.T8.2 spec_stSides.B8 = true := by kernel_rfl
set_option maxHeartbeats 8000000 in
set_option maxRecDepth 100000 in
theorem spec_stSides.calls (k : Nat) (a0_0 : Int) (a0_1 : Int) (A0_2 : Option Addr) (c0_2 : Nat) (l0_2 : List (S87)) (r : List Int) (w : World) (hr0_2 : Kd.C k87 w A0_2 l0_2.length l0_2) (hc0_2 : l0_2.length ≤ c0_2) (h : spec_stSides.f k a0_0 a0_1 l0_2 = some r) :
    Calls Try.prog 30 #[.agg #[.int .i64 a0_0, .int .i64 a0_1, .slice A0_2 l0_2.length c0_2]] w fun e w' => ∃ v0_ : Value, e = .returned (v0_) ∧ Kd.R (Kd.int .i64) 3 w' w.heap.size (fun _ => True) v0_ r ∧ Below w.heap.size w w' := by
  have hu31 := Try.underlying31
  have hu87 := Try.underlying87
  have HR0_2 := As_ hr0_2
  have HC0_2 := As_ hc0_2
  clear hr0_2 hc0_2
  have HB := As_ (Below.refl w.heap.size w)
  have H : (spec_stSides.l0 k ([] : List (S87)) l0_2 (l0_2.length : Int) 0) = some r := h
  clear h
  have H' := As_ H
  clear H
  go_enter Try.func30, Try.ntmps30
  go_wp2_with (first | ((with_reducible refine gate_dst (N := 1) rfl ?_); refine box_event ?hg (N := 1) ?hd (cs := #[.int .i64 a0_0, .int .i64 a0_1, .slice A0_2 l0_2.length c0_2]) (t := 31) ?hr ?_; (case hd => rfl); (case hg => rfl); (case hr => first | (go_simp; done) | (go_simp; rfl)); intro gb126 hg w2 hbox hb; have BK126 := As_ (hbox); have GW126 := As_ ((by rw [hg]; exact (below_size (by repeat (first | (with_reducible first | exact HB.out | apply below_alloc | apply pw_below_drewN | apply below_drew1) | exact HB.out))) : w.heap.size ≤ gb126)); have GE126 := As_ ((by rw [hg]; exact (below_size (by repeat (first | (with_reducible first | exact HB.out | apply below_alloc | apply pw_below_drewN | apply below_drew1) | exact HB.out))) : w.heap.size ≤ gb126)); replace HB := As_ (below_step (by repeat (first | (with_reducible first | exact HB.out | apply below_alloc | apply pw_below_drewN | apply below_drew1) | exact HB.out)) hb); clear hb hbox hg; have hcz3_0 : w2.cell? ⟨gb126, 0, none⟩ = some (.int .i64 a0_0) := (blk_cell BK126.out 0).trans rfl; have hcz3_1 : w2.cell? ⟨gb126, 1, none⟩ = some (.int .i64 a0_1) := (blk_cell BK126.out 1).trans rfl; have hcz3_2 : w2.cell? ⟨gb126, 2, none⟩ = some (.slice A0_2 l0_2.length c0_2) := (blk_cell BK126.out 2).trans rfl; have hfz3_0 := blk_frozen BK126.out 0; have hfz3_1 := blk_frozen BK126.out 1; have hfz3_2 := blk_frozen BK126.out 2))
  go_loopg [3, 14] k (fun kq v3 v14 w' => ∃ (x3_1 : List (S87)) (x14_1 : Int), v14 = .int .i64 x14_1 ∧ Aside0 (spec_stSides.l0 kq x3_1 l0_2 (l0_2.length : Int) x14_1 = some r) ∧ Aside0 (kq ≤ k) ∧ Aside0 (Kd.R k87 87 w' w.heap.size (fun _ => True) v3 x3_1) ∧ Aside0 (w'.heap[gb126]? = some (.cells #[.int .i64 a0_0, .int .i64 a0_1, (.slice A0_2 l0_2.length c0_2)] 31 (0, 0))) ∧ Aside0 (Below w.heap.size w w'))
  case atStart => exact ⟨(([] : List (S87))), (0), (by first | rfl | (simp; done) | (simp [*]; done)), H', ⟨Nat.le_refl _⟩, ⟨by first | exact Kd.R_nil _ _ _ _ _ | exact Kd.N_nil _ _ _ _ _ | exact Kd.V_nil _ _ _ _ _ | exact Kd.Q_nil _ _ _ _ _ | exact Kd.S_nil _ _ _ _ _⟩, ⟨by (with_reducible repeat (first | refine blk_drewN ?_ _ | refine blk_drew ?_ | refine blk_alloc ?_ _)); exact BK126.out⟩, ⟨by repeat (first | (with_reducible first | exact HB.out | apply below_alloc | apply pw_below_drewN | apply below_drew1 | refine below_set ?_ GE126.out) | exact HB.out)⟩⟩
  case round =>
    clear H'
    try clear p2; try clear c3; try clear hcz3_0; try clear hcz3_1; try clear hcz3_2; try clear hfz3_0; try clear hfz3_1; try clear hfz3_2
    obtain ⟨x3_1, x14_1, rfl, HA, HK1, HO_3, BK126, HB⟩ := hrel
    rcases gk with _ | k1
    · exact absurd HA.out (by simp [spec_stSides.l0])
    have H := HA.out
    clear HA
    simp only [spec_stSides.l0] at H
    by_cases c4 : x14_1 < (l0_2.length : Int)
    · rw [if_pos c4] at H
      have c4b0 : decide (x14_1 < (l0_2.length : Int)) = true := decide_eq_true c4
      clear c4
      by_cases c5 : 0 ≤ x14_1
      case neg => rw [if_neg c5] at H; exact absurd H (by simp)
      rw [if_pos c5] at H
      have c5b0 : decide (0 ≤ x14_1) = true := decide_eq_true c5
      clear c5
      by_cases c6 : x14_1 < (l0_2.length : Int)
      case neg => rw [if_neg c6] at H; exact absurd H (by simp)
      rw [if_pos c6] at H
      have c6b0 : decide (x14_1 < (l0_2.length : Int)) = true := decide_eq_true c6
      clear c6
      have H' := As_ H
      clear H
      have p127 : 0 ≤ (x14_1 : Int) := of_decide_eq_true (by first | (with_reducible assumption) | assumption)
      have q127 : x14_1 < (l0_2.length : Int) := of_decide_eq_true (by first | (with_reducible assumption) | assumption)
      obtain ⟨ad127, e127, hx127_0, hx127_1, hx127_2⟩ := at_T87 HR0_2.out x14_1 p127 q127
      cases e127
      replace hx127_0 := (HB.out.cell (World.block_lt_of_cell? w _ hx127_0)).trans hx127_0
      replace hx127_1 := (HB.out.cell (World.block_lt_of_cell? w _ hx127_1)).trans hx127_1
      replace hx127_2 := (HB.out.cell (World.block_lt_of_cell? w _ hx127_2)).trans hx127_2
      replace p127 := eq_true p127
      replace q127 := eq_true q127
      go_wp2_with (first | ((with_reducible refine gate_dst (N := 5) rfl ?_); refine box_event ?hg (N := 5) ?hd (cs := #[.int .i64 0, .int .i64 0, .int .i64 0]) (t := 87) ?hr ?_; (case hd => rfl); (case hg => rfl); (case hr => first | (go_simp; done) | (go_simp; rfl)); intro gb128 hg w7 hbox hb; have BK128 := As_ (hbox); have GW128 := As_ ((by rw [hg]; exact (below_size (by repeat (first | (with_reducible first | exact HB.out | apply below_alloc | apply pw_below_drewN | apply below_drew1 | refine below_set ?_ GE126.out) | exact HB.out))) : w.heap.size ≤ gb128)); have GE128 := As_ ((by rw [hg]; exact (below_size (by repeat (first | (with_reducible first | exact HB.out | apply below_alloc | apply pw_below_drewN | apply below_drew1 | refine below_set ?_ GE126.out) | exact HB.out))) : w.heap.size ≤ gb128)); have NB126_128 := As_ (ne_lt hg BK126.out); have NB128_126 := As_ (ne_gt hg BK126.out); replace HO_3 := As_ (Kd.R_below (Kd.R_elderB (by (with_reducible repeat (first | apply Kd.R_alloc | apply Kd.R_drewN | apply Kd.R_drew)); exact HO_3.out) gb128 (Nat.le_of_eq hg.symm)) hb); replace BK126 := As_ (blk_b hb BK126.out); replace HB := As_ (below_step (by repeat (first | (with_reducible first | exact HB.out | apply below_alloc | apply pw_below_drewN | apply below_drew1 | refine below_set ?_ GE126.out) | exact HB.out)) hb); clear hb hbox hg; have hnb8 := NB128_126.out; have hnc8 := NB126_128.out; have hcz9_0 : w7.cell? ⟨gb128, 0, none⟩ = some (.int .i64 0) := (blk_cell BK128.out 0).trans rfl; have hcz9_1 : w7.cell? ⟨gb128, 1, none⟩ = some (.int .i64 0) := (blk_cell BK128.out 1).trans rfl; have hcz9_2 : w7.cell? ⟨gb128, 2, none⟩ = some (.int .i64 0) := (blk_cell BK128.out 2).trans rfl; have hfz9_0 := blk_frozen BK128.out 0; have hfz9_1 := blk_frozen BK128.out 1; have hfz9_2 := blk_frozen BK128.out 2; obtain ⟨Ao10, co10, eo10⟩ := Kd.R_slice HO_3.out; subst eo10))
      go_loopg [6] k1 (fun kq v6 w' => ∃ (x6_2 : Int), v6 = .int .i64 x6_2 ∧ Aside0 (spec_stSides.l1 kq x3_1 x6_2 l0_2 (l0_2.length : Int) x14_1 ((rd_T87 l0_2 x14_1).f0) ((rd_T87 l0_2 x14_1).f1) ((rd_T87 l0_2 x14_1).f2) = some r) ∧ Aside0 (kq ≤ k1) ∧ Aside0 (Kd.R k87 87 w' w.heap.size (fun k_ => k_ ≠ gb128) (.slice Ao10 x3_1.length co10) x3_1) ∧ Aside0 (w'.heap[gb126]? = some (.cells #[.int .i64 a0_0, .int .i64 a0_1, (.slice (some ad127) l0_2.length c0_2)] 31 (0, 0))) ∧ Aside0 (w'.heap[gb128]? = some (.cells #[.int .i64 ((rd_T87 l0_2 x14_1).f0), .int .i64 ((rd_T87 l0_2 x14_1).f1), .int .i64 ((rd_T87 l0_2 x14_1).f2)] 87 (0, 0))) ∧ Aside0 (Below w.heap.size w w'))
      case atStart => exact ⟨((x3_1.length : Int)), (by first | rfl | (simp; done) | (simp [*]; done)), H', ⟨Nat.le_refl _⟩, ⟨by (with_reducible repeat (first | apply Kd.R_alloc | apply Kd.R_drewN | apply Kd.R_drew)); exact Kd.R_mono (Kd.R_far (p := ⟨gb128, 2, none⟩) (Kd.R_far (p := ⟨gb128, 1, none⟩) (Kd.R_far (p := ⟨gb128, 0, none⟩) (Kd.R_mono HO_3.out (fun k_ hk => (⟨hk, hk.2⟩ : _ ∧ k_ ≠ gb128))) (fun _ hk => hk.2) (.int .i64 ((rd_T87 l0_2 x14_1).f0))) (fun _ hk => hk.2) (.int .i64 ((rd_T87 l0_2 x14_1).f1))) (fun _ hk => hk.2) (.int .i64 ((rd_T87 l0_2 x14_1).f2))) (fun _ hk => hk.1.2)⟩, ⟨by (with_reducible repeat (first | refine blk_drewN ?_ _ | refine blk_drew ?_ | refine blk_alloc ?_ _)); refine blk_far ?_ NB126_128.out _; refine blk_far ?_ NB126_128.out _; refine blk_far ?_ NB126_128.out _; (with_reducible repeat (first | refine blk_drewN ?_ _ | refine blk_drew ?_ | refine blk_alloc ?_ _)); exact BK126.out⟩, ⟨by (with_reducible repeat (first | refine blk_drewN ?_ _ | refine blk_drew ?_ | refine blk_alloc ?_ _)); refine blk_put (cs := #[.int .i64 ((rd_T87 l0_2 x14_1).f0), .int .i64 ((rd_T87 l0_2 x14_1).f1), .int .i64 0]) ?_ 2 _ rfl; refine blk_put (cs := #[.int .i64 ((rd_T87 l0_2 x14_1).f0), .int .i64 0, .int .i64 0]) ?_ 1 _ rfl; refine blk_put (cs := #[.int .i64 0, .int .i64 0, .int .i64 0]) ?_ 0 _ rfl; (with_reducible repeat (first | refine blk_drewN ?_ _ | refine blk_drew ?_ | refine blk_alloc ?_ _)); exact BK128.out⟩, ⟨by repeat (first | (with_reducible first | exact HB.out | apply below_alloc | apply pw_below_drewN | apply below_drew1 | refine below_setA ?_ (by assumption)) | exact HB.out)⟩⟩
      case round =>
        clear H'
        try clear p1
        try clear q1
        try clear hx1; try clear p2; try clear c3; try clear c4; try clear c4b0; try clear c5; try clear c5b0; try clear c6; try clear c6b0; try clear c8; try clear hcz3_0; try clear hcz3_1; try clear hcz3_2; try clear hcz9_0; try clear hcz9_1; try clear hcz9_2; try clear hfz3_0; try clear hfz3_1; try clear hfz3_2; try clear hfz9_0; try clear hfz9_1; try clear hfz9_2; try clear hx127_0; try clear hx127_1; try clear hx127_2; try clear p127; try clear p2
        try clear q127
        obtain ⟨x6_2, rfl, HA, HK2, HO_3, BK126, BK128, HB⟩ := hrel
        rcases gk with _ | k2
        · exact absurd HA.out (by simp [spec_stSides.l1])
        have H := HA.out
        clear HA
        simp only [spec_stSides.l1] at H
        by_cases c11 : x6_2 > 0
        · rw [if_pos c11] at H
          have c11b0 : decide (0 < x6_2) = true := decide_eq_true c11
          clear c11
          obtain ⟨ji12, hji12⟩ : ∃ j_ : Int, (wrap64 (x6_2 - 1)) = j_ := ⟨_, rfl⟩
          replace H : (if 0 ≤ (ji12) then (if (ji12) < (x3_1.length : Int) then (if ((rd_T87 l0_2 x14_1).f0) < ((rd_T87 x3_1 (ji12)).f0) then (spec_stSides.l1 k2 x3_1 ji12 l0_2 (l0_2.length : Int) x14_1 ((rd_T87 l0_2 x14_1).f0) ((rd_T87 l0_2 x14_1).f1) ((rd_T87 l0_2 x14_1).f2)) else (if ((rd_T87 l0_2 x14_1).f0) = ((rd_T87 x3_1 (ji12)).f0) then (if ((rd_T87 l0_2 x14_1).f1) < ((rd_T87 x3_1 (ji12)).f1) then (spec_stSides.l1 k2 x3_1 ji12 l0_2 (l0_2.length : Int) x14_1 ((rd_T87 l0_2 x14_1).f0) ((rd_T87 l0_2 x14_1).f1) ((rd_T87 l0_2 x14_1).f2)) else ((some (([] : List (S87)) : List (S87))).bind fun y132 => (if 0 ≤ x6_2 then (if x6_2 ≤ (x3_1.length : Int) then ((some (x3_1.take (x6_2 : Int).toNat : List (S87))).bind fun y135 => (if y132.length + y135.length < 5864062014805 then ((some (y132 ++ y135 : List (S87))).bind fun y139 => ((some (([(⟨((rd_T87 l0_2 x14_1).f0), ((rd_T87 l0_2 x14_1).f1), ((rd_T87 l0_2 x14_1).f2)⟩ : S87)] : List (S87)) : List (S87))).bind fun y142 => (if y139.length + y142.length < 5864062014805 then ((some (y139 ++ y142 : List (S87))).bind fun y145 => ((some (x3_1.drop (x6_2 : Int).toNat : List (S87))).bind fun y148 => (if y145.length + y148.length < 5864062014805 then (spec_stSides.l0 k2 (y145 ++ y148) l0_2 (l0_2.length : Int) (wrap64 (x14_1 + 1))) else (none)))) else (none)))) else (none))) else (none)) else (none)))) else ((some (([] : List (S87)) : List (S87))).bind fun y155 => (if 0 ≤ x6_2 then (if x6_2 ≤ (x3_1.length : Int) then ((some (x3_1.take (x6_2 : Int).toNat : List (S87))).bind fun y158 => (if y155.length + y158.length < 5864062014805 then ((some (y155 ++ y158 : List (S87))).bind fun y162 => ((some (([(⟨((rd_T87 l0_2 x14_1).f0), ((rd_T87 l0_2 x14_1).f1), ((rd_T87 l0_2 x14_1).f2)⟩ : S87)] : List (S87)) : List (S87))).bind fun y165 => (if y162.length + y165.length < 5864062014805 then ((some (y162 ++ y165 : List (S87))).bind fun y168 => ((some (x3_1.drop (x6_2 : Int).toNat : List (S87))).bind fun y171 => (if y168.length + y171.length < 5864062014805 then (spec_stSides.l0 k2 (y168 ++ y171) l0_2 (l0_2.length : Int) (wrap64 (x14_1 + 1))) else (none)))) else (none)))) else (none))) else (none)) else (none))))) else (none)) else (none)) = some r := by first | (rw [hji12] at H; exact H) | (simp only [hji12] at H ⊢; exact H)
          have hji12w : (IntKind.i64.wrap (x6_2 - 1)) = ji12 := (i64_w _).trans hji12
          by_cases c13 : 0 ≤ (ji12)
          case neg => rw [if_neg c13] at H; exact absurd H (by simp)
          rw [if_pos c13] at H
          have c13b0 : decide (0 ≤ (ji12)) = true := decide_eq_true c13
          clear c13
          by_cases c14 : (ji12) < (x3_1.length : Int)
          case neg => rw [if_neg c14] at H; exact absurd H (by simp)
          rw [if_pos c14] at H
          have c14b0 : decide ((ji12) < (x3_1.length : Int)) = true := decide_eq_true c14
          clear c14
          by_cases c15 : ((rd_T87 l0_2 x14_1).f0) < ((rd_T87 x3_1 (ji12)).f0)
          · rw [if_pos c15] at H
            have c15b0 : decide (((rd_T87 l0_2 x14_1).f0) < ((rd_T87 x3_1 (ji12)).f0)) = true := decide_eq_true c15
            clear c15
            have H' := As_ H
            clear H
            try go_wp2
            replace HO_3 := As_ (Kd.R_drew HO_3.out)
            replace BK126 := As_ (blk_drew BK126.out)
            replace BK128 := As_ (blk_drew BK128.out)
            replace HB := As_ (below_drew1 HB.out)
            have p129 : 0 ≤ ((ji12) : Int) := of_decide_eq_true (by first | (with_reducible assumption) | assumption)
            have q129 : (ji12) < (x3_1.length : Int) := of_decide_eq_true (by first | (with_reducible assumption) | assumption)
            obtain ⟨ad129, e129, hx129_0, hx129_1, hx129_2⟩ := at_T87 (Kd.R_reads' HO_3.out).2.2 (ji12) p129 q129
            cases e129
            replace p129 := eq_true p129
            replace q129 := eq_true q129
            refine start_ (n := 35) (S := fun w' => w'.cell? ⟨gb128, 0, none⟩ = some (.int .i64 ((rd_T87 l0_2 x14_1).f0)) ∧ w'.cell? ⟨gb128, 1, none⟩ = some (.int .i64 ((rd_T87 l0_2 x14_1).f1)) ∧ w'.cell? ⟨gb128, 2, none⟩ = some (.int .i64 ((rd_T87 l0_2 x14_1).f2)) ∧ w'.cell? (ad129.add (((ji12)).toNat * 3)) = some (.int .i64 ((rd_T87 x3_1 (ji12)).f0)) ∧ w'.cell? ⟨(ad129.add (((ji12)).toNat * 3)).block, (ad129.add (((ji12)).toNat * 3)).off + 1, none⟩ = some (.int .i64 ((rd_T87 x3_1 (ji12)).f1)) ∧ w'.cell? ⟨(ad129.add (((ji12)).toNat * 3)).block, (ad129.add (((ji12)).toNat * 3)).off + 2, none⟩ = some (.int .i64 ((rd_T87 x3_1 (ji12)).f2))) (ds := []) #[f_,f_,f_,f_,f_,f_,f_,f_,f_,f_,f_,f_,f_,f_,f_,f_,f_,f_,f_,f_,f_,f_,f_,f_,f_,f_,f_,f_,f_,f_,f_,f_,f_,f_,f_] (by kernel_rfl) rfl rfl ⟨(blk_cell BK128.out 0).trans rfl, (blk_cell BK128.out 1).trans rfl, (blk_cell BK128.out 2).trans rfl, hx129_0, hx129_1, hx129_2⟩ (fun hHeld => ?_); refine with_tabW spec_stSides.tab6 spec_stSides.bits6 (fun HT_ HW_ => ?_)
            generalize wr.drew = w16 at HO_3 BK126 BK128 HB hx129_0 hx129_1 hx129_2 hHeld ⊢
            refine pure_ (i := 0) (N := some 20) (v := ?_) (a' := ?_) #[t_,f_,f_,f_,f_,f_,f_,f_,f_,f_,f_,f_,f_,f_,f_,f_,f_,f_,f_,f_,f_,f_,f_,f_,f_,f_,f_,f_,f_,f_,f_,f_,f_,f_,f_] rfl rfl (any_of HT_.out (by kernel_rfl)) (fun _ _ _ h => h) (Or.inl ⟨by rfl, ?_⟩) ?_ ?_; rotate_left
            · intro w'; go_simp; with_reducible rfl
            rotate_left
            · simp only [Act.put, sib_, sc0_, sc1_, i64_w, i32_w]; rfl
            refine pure_ (i := 1) (N := some 21) (v := ?_) (a' := ?_) #[t_,t_,f_,f_,f_,f_,f_,f_,f_,f_,f_,f_,f_,f_,f_,f_,f_,f_,f_,f_,f_,f_,f_,f_,f_,f_,f_,f_,f_,f_,f_,f_,f_,f_,f_] rfl rfl (any_of HT_.out (by kernel_rfl)) (fun _ _ _ h => h) (Or.inl ⟨by rfl, ?_⟩) ?_ ?_; rotate_left
            · intro w'; go_simp; with_reducible rfl
            rotate_left
            · simp only [Act.put, sib_, sc0_, sc1_, i64_w, i32_w]; rfl
            refine pure_ (i := 2) (N := some 22) (v := ?_) (a' := ?_) #[t_,t_,t_,f_,f_,f_,f_,f_,f_,f_,f_,f_,f_,f_,f_,f_,f_,f_,f_,f_,f_,f_,f_,f_,f_,f_,f_,f_,f_,f_,f_,f_,f_,f_,f_] rfl rfl (any_of HT_.out (by kernel_rfl)) (fun _ _ _ h => h) (Or.inl ⟨by rfl, ?_⟩) ?_ ?_; rotate_left
            · intro w'; go_simp; with_reducible rfl
            rotate_left
            · simp only [Act.put, sib_, sc0_, sc1_, i64_w, i32_w]; rfl
            refine pure_ (i := 3) (N := some 23) (v := ?_) (a' := ?_) #[t_,t_,t_,t_,f_,f_,f_,f_,f_,f_,f_,f_,f_,f_,f_,f_,f_,f_,f_,f_,f_,f_,f_,f_,f_,f_,f_,f_,f_,f_,f_,f_,f_,f_,f_] rfl rfl (any_of HT_.out (by kernel_rfl)) (fun _ _ _ h => h) (Or.inl ⟨by rfl, ?_⟩) ?_ ?_; rotate_left
            · intro w'; go_simp; with_reducible rfl
            rotate_left
            · simp only [Act.put, sib_, sc0_, sc1_, i64_w, i32_w]; rfl
            refine pure_ (i := 5) (N := some 25) (v := ?_) (a' := ?_) #[t_,t_,t_,t_,f_,t_,f_,f_,f_,f_,f_,f_,f_,f_,f_,f_,f_,f_,f_,f_,f_,f_,f_,f_,f_,f_,f_,f_,f_,f_,f_,f_,f_,f_,f_] rfl rfl (any_of HT_.out (by kernel_rfl)) (fun _ _ _ h => h) (Or.inl ⟨by rfl, ?_⟩) ?_ ?_; rotate_left
            · intro w'; go_simp; with_reducible rfl
            rotate_left
            · simp only [Act.put, sib_, sc0_, sc1_, i64_w, i32_w]; rfl
            refine pure_ (i := 6) (N := some 26) (v := ?_) (a' := ?_) #[t_,t_,t_,t_,f_,t_,t_,f_,f_,f_,f_,f_,f_,f_,f_,f_,f_,f_,f_,f_,f_,f_,f_,f_,f_,f_,f_,f_,f_,f_,f_,f_,f_,f_,f_] rfl rfl (any_of HT_.out (by kernel_rfl)) (fun _ _ _ h => h) (Or.inl ⟨by rfl, ?_⟩) ?_ ?_; rotate_left
            · intro w'; go_simp; with_reducible rfl
            rotate_left
            · simp only [Act.put, sib_, sc0_, sc1_, i64_w, i32_w]; rfl
            refine pure_ (i := 7) (N := some 27) (v := ?_) (a' := ?_) #[t_,t_,t_,t_,f_,t_,t_,t_,f_,f_,f_,f_,f_,f_,f_,f_,f_,f_,f_,f_,f_,f_,f_,f_,f_,f_,f_,f_,f_,f_,f_,f_,f_,f_,f_] rfl rfl (any_of HT_.out (by kernel_rfl)) (fun _ _ _ h => h) (Or.inl ⟨by rfl, ?_⟩) ?_ ?_; rotate_left
            · intro w'; go_simp; with_reducible rfl
            rotate_left
            · simp only [Act.put, sib_, sc0_, sc1_, i64_w, i32_w]; rfl
            refine pure_ (i := 8) (N := some 28) (v := ?_) (a' := ?_) #[t_,t_,t_,t_,f_,t_,t_,t_,t_,f_,f_,f_,f_,f_,f_,f_,f_,f_,f_,f_,f_,f_,f_,f_,f_,f_,f_,f_,f_,f_,f_,f_,f_,f_,f_] rfl rfl (any_of HT_.out (by kernel_rfl)) (fun _ _ _ h => h) (Or.inl ⟨by rfl, ?_⟩) ?_ ?_; rotate_left
            · intro w'; go_simp; with_reducible rfl
            rotate_left
            · simp only [Act.put, sib_, sc0_, sc1_, i64_w, i32_w]; rfl
            refine pure_ (i := 9) (N := some 29) (v := ?_) (a' := ?_) #[t_,t_,t_,t_,f_,t_,t_,t_,t_,t_,f_,f_,f_,f_,f_,f_,f_,f_,f_,f_,f_,f_,f_,f_,f_,f_,f_,f_,f_,f_,f_,f_,f_,f_,f_] rfl rfl (any_of HT_.out (by kernel_rfl)) (fun _ _ _ h => h) (Or.inl ⟨by rfl, ?_⟩) ?_ ?_; rotate_left
            · intro w'; go_simp; with_reducible rfl
            rotate_left
            · simp only [Act.put, sib_, sc0_, sc1_, i64_w, i32_w]; rfl
            refine take_ (i := 4) (N := some 24) (v := ?_) (a' := ?_) #[t_,t_,t_,t_,t_,t_,t_,t_,t_,t_,f_,f_,f_,f_,f_,f_,f_,f_,f_,f_,f_,f_,f_,f_,f_,f_,f_,f_,f_,f_,f_,f_,f_,f_,f_] rfl rfl (take_ofW HT_.out HW_.out (by kernel_rfl)) (fun _ _ _ h => h) (Or.inl ⟨by rfl, ?_⟩) hHeld ?_ ?_; rotate_left
            · rintro w' ⟨s0, s1, s2, s3, s4, s5⟩
              go_simp
              with_reducible rfl
            rotate_left
            · simp only [Act.put, sib_, sc0_, sc1_, i64_w, i32_w]; rfl
            refine take_ (i := 10) (N := some 30) (v := ?_) (a' := ?_) #[t_,t_,t_,t_,t_,t_,t_,t_,t_,t_,t_,f_,f_,f_,f_,f_,f_,f_,f_,f_,f_,f_,f_,f_,f_,f_,f_,f_,f_,f_,f_,f_,f_,f_,f_] rfl rfl (take_ofW HT_.out HW_.out (by kernel_rfl)) (fun _ _ _ h => h) (Or.inl ⟨by rfl, ?_⟩) hHeld ?_ ?_; rotate_left
            · rintro w' ⟨s0, s1, s2, s3, s4, s5⟩
              go_simp
              with_reducible rfl
            rotate_left
            · simp only [Act.put, sib_, sc0_, sc1_, i64_w, i32_w]; rfl
            refine pure_ (i := 11) (N := some 31) (v := ?_) (a' := ?_) #[t_,t_,t_,t_,t_,t_,t_,t_,t_,t_,t_,t_,f_,f_,f_,f_,f_,f_,f_,f_,f_,f_,f_,f_,f_,f_,f_,f_,f_,f_,f_,f_,f_,f_,f_] rfl rfl (any_of HT_.out (by kernel_rfl)) (fun _ _ _ h => h) (Or.inl ⟨by rfl, ?_⟩) ?_ ?_; rotate_left
            · intro w'; go_simp; with_reducible rfl
            rotate_left
            · simp only [Act.put, sib_, sc0_, sc1_, i64_w, i32_w]; rfl
            refine pure_ (i := 12) (N := some 32) (v := ?_) (a' := ?_) #[t_,t_,t_,t_,t_,t_,t_,t_,t_,t_,t_,t_,t_,f_,f_,f_,f_,f_,f_,f_,f_,f_,f_,f_,f_,f_,f_,f_,f_,f_,f_,f_,f_,f_,f_] rfl rfl (any_of HT_.out (by kernel_rfl)) (fun _ _ _ h => h) (Or.inl ⟨by rfl, ?_⟩) ?_ ?_; rotate_left
            · intro w'; go_simp; with_reducible rfl
            rotate_left
            · simp only [Act.put, sib_, sc0_, sc1_, i64_w, i32_w]; rfl
            refine pure_ (i := 13) (N := some 33) (v := undef) (a' := ?_) #[t_,t_,t_,t_,t_,t_,t_,t_,t_,t_,t_,t_,t_,t_,f_,f_,f_,f_,f_,f_,f_,f_,f_,f_,f_,f_,f_,f_,f_,f_,f_,f_,f_,f_,f_] rfl rfl (any_of HT_.out (by kernel_rfl)) (fun _ _ _ h => h) (Or.inr ⟨by rfl, rfl⟩) ?_ ?_; rotate_left
            · simp only [Act.put, sib_, sc0_, sc1_, i64_w, i32_w]; rfl
            refine pure_ (i := 14) (N := some 34) (v := undef) (a' := ?_) #[t_,t_,t_,t_,t_,t_,t_,t_,t_,t_,t_,t_,t_,t_,t_,f_,f_,f_,f_,f_,f_,f_,f_,f_,f_,f_,f_,f_,f_,f_,f_,f_,f_,f_,f_] rfl rfl (any_of HT_.out (by kernel_rfl)) (fun _ _ _ h => h) (Or.inr ⟨by rfl, rfl⟩) ?_ ?_; rotate_left
            · simp only [Act.put, sib_, sc0_, sc1_, i64_w, i32_w]; rfl
            refine pure_ (i := 15) (N := some 35) (v := undef) (a' := ?_) #[t_,t_,t_,t_,t_,t_,t_,t_,t_,t_,t_,t_,t_,t_,t_,t_,f_,f_,f_,f_,f_,f_,f_,f_,f_,f_,f_,f_,f_,f_,f_,f_,f_,f_,f_] rfl rfl (any_of HT_.out (by kernel_rfl)) (fun _ _ _ h => h) (Or.inr ⟨by rfl, rfl⟩) ?_ ?_; rotate_left
            · simp only [Act.put, sib_, sc0_, sc1_, i64_w, i32_w]; rfl
            refine pure_ (i := 16) (N := some 36) (v := undef) (a' := ?_) #[t_,t_,t_,t_,t_,t_,t_,t_,t_,t_,t_,t_,t_,t_,t_,t_,t_,f_,f_,f_,f_,f_,f_,f_,f_,f_,f_,f_,f_,f_,f_,f_,f_,f_,f_] rfl rfl (any_of HT_.out (by kernel_rfl)) (fun _ _ _ h => h) (Or.inr ⟨by rfl, rfl⟩) ?_ ?_; rotate_left
            · simp only [Act.put, sib_, sc0_, sc1_, i64_w, i32_w]; rfl
            refine pure_ (i := 17) (N := some 37) (v := undef) (a' := ?_) #[t_,t_,t_,t_,t_,t_,t_,t_,t_,t_,t_,t_,t_,t_,t_,t_,t_,t_,f_,f_,f_,f_,f_,f_,f_,f_,f_,f_,f_,f_,f_,f_,f_,f_,f_] rfl rfl (any_of HT_.out (by kernel_rfl)) (fun _ _ _ h => h) (Or.inr ⟨by rfl, rfl⟩) ?_ ?_; rotate_left
            · simp only [Act.put, sib_, sc0_, sc1_, i64_w, i32_w]; rfl
            refine pure_ (i := 18) (N := some 38) (v := undef) (a' := ?_) #[t_,t_,t_,t_,t_,t_,t_,t_,t_,t_,t_,t_,t_,t_,t_,t_,t_,t_,t_,f_,f_,f_,f_,f_,f_,f_,f_,f_,f_,f_,f_,f_,f_,f_,f_] rfl rfl (any_of HT_.out (by kernel_rfl)) (fun _ _ _ h => h) (Or.inr ⟨by rfl, rfl⟩) ?_ ?_; rotate_left
            · simp only [Act.put, sib_, sc0_, sc1_, i64_w, i32_w]; rfl
            refine pure_ (i := 19) (N := some 39) (v := undef) (a' := ?_) #[t_,t_,t_,t_,t_,t_,t_,t_,t_,t_,t_,t_,t_,t_,t_,t_,t_,t_,t_,t_,f_,f_,f_,f_,f_,f_,f_,f_,f_,f_,f_,f_,f_,f_,f_] rfl rfl (any_of HT_.out (by kernel_rfl)) (fun _ _ _ h => h) (Or.inr ⟨by rfl, rfl⟩) ?_ ?_; rotate_left
            · simp only [Act.put, sib_, sc0_, sc1_, i64_w, i32_w]; rfl
            refine pure_ (i := 20) (N := some 40) (v := undef) (a' := ?_) #[t_,t_,t_,t_,t_,t_,t_,t_,t_,t_,t_,t_,t_,t_,t_,t_,t_,t_,t_,t_,t_,f_,f_,f_,f_,f_,f_,f_,f_,f_,f_,f_,f_,f_,f_] rfl rfl (any_of HT_.out (by kernel_rfl)) (fun _ _ _ h => h) (Or.inr ⟨by rfl, rfl⟩) ?_ ?_; rotate_left
            · simp only [Act.put, sib_, sc0_, sc1_, i64_w, i32_w]; rfl
            refine pure_ (i := 21) (N := some 41) (v := undef) (a' := ?_) #[t_,t_,t_,t_,t_,t_,t_,t_,t_,t_,t_,t_,t_,t_,t_,t_,t_,t_,t_,t_,t_,t_,f_,f_,f_,f_,f_,f_,f_,f_,f_,f_,f_,f_,f_] rfl rfl (any_of HT_.out (by kernel_rfl)) (fun _ _ _ h => h) (Or.inr ⟨by rfl, rfl⟩) ?_ ?_; rotate_left
            · simp only [Act.put, sib_, sc0_, sc1_, i64_w, i32_w]; rfl
            refine pure_ (i := 22) (N := some 42) (v := undef) (a' := ?_) #[t_,t_,t_,t_,t_,t_,t_,t_,t_,t_,t_,t_,t_,t_,t_,t_,t_,t_,t_,t_,t_,t_,t_,f_,f_,f_,f_,f_,f_,f_,f_,f_,f_,f_,f_] rfl rfl (any_of HT_.out (by kernel_rfl)) (fun _ _ _ h => h) (Or.inr ⟨by rfl, rfl⟩) ?_ ?_; rotate_left
            · simp only [Act.put, sib_, sc0_, sc1_, i64_w, i32_w]; rfl
            refine pure_ (i := 23) (N := some 43) (v := undef) (a' := ?_) #[t_,t_,t_,t_,t_,t_,t_,t_,t_,t_,t_,t_,t_,t_,t_,t_,t_,t_,t_,t_,t_,t_,t_,t_,f_,f_,f_,f_,f_,f_,f_,f_,f_,f_,f_] rfl rfl (any_of HT_.out (by kernel_rfl)) (fun _ _ _ h => h) (Or.inr ⟨by rfl, rfl⟩) ?_ ?_; rotate_left
            · simp only [Act.put, sib_, sc0_, sc1_, i64_w, i32_w]; rfl
            refine pure_ (i := 24) (N := some 44) (v := undef) (a' := ?_) #[t_,t_,t_,t_,t_,t_,t_,t_,t_,t_,t_,t_,t_,t_,t_,t_,t_,t_,t_,t_,t_,t_,t_,t_,t_,f_,f_,f_,f_,f_,f_,f_,f_,f_,f_] rfl rfl (any_of HT_.out (by kernel_rfl)) (fun _ _ _ h => h) (Or.inr ⟨by rfl, rfl⟩) ?_ ?_; rotate_left
            · simp only [Act.put, sib_, sc0_, sc1_, i64_w, i32_w]; rfl
            refine pure_ (i := 25) (N := some 45) (v := undef) (a' := ?_) #[t_,t_,t_,t_,t_,t_,t_,t_,t_,t_,t_,t_,t_,t_,t_,t_,t_,t_,t_,t_,t_,t_,t_,t_,t_,t_,f_,f_,f_,f_,f_,f_,f_,f_,f_] rfl rfl (any_of HT_.out (by kernel_rfl)) (fun _ _ _ h => h) (Or.inr ⟨by rfl, rfl⟩) ?_ ?_; rotate_left
            · simp only [Act.put, sib_, sc0_, sc1_, i64_w, i32_w]; rfl
            refine pure_ (i := 26) (N := some 46) (v := undef) (a' := ?_) #[t_,t_,t_,t_,t_,t_,t_,t_,t_,t_,t_,t_,t_,t_,t_,t_,t_,t_,t_,t_,t_,t_,t_,t_,t_,t_,t_,f_,f_,f_,f_,f_,f_,f_,f_] rfl rfl (any_of HT_.out (by kernel_rfl)) (fun _ _ _ h => h) (Or.inr ⟨by rfl, rfl⟩) ?_ ?_; rotate_left
            · simp only [Act.put, sib_, sc0_, sc1_, i64_w, i32_w]; rfl
            refine pure_ (i := 27) (N := some 47) (v := undef) (a' := ?_) #[t_,t_,t_,t_,t_,t_,t_,t_,t_,t_,t_,t_,t_,t_,t_,t_,t_,t_,t_,t_,t_,t_,t_,t_,t_,t_,t_,t_,f_,f_,f_,f_,f_,f_,f_] rfl rfl (any_of HT_.out (by kernel_rfl)) (fun _ _ _ h => h) (Or.inr ⟨by rfl, rfl⟩) ?_ ?_; rotate_left
            · simp only [Act.put, sib_, sc0_, sc1_, i64_w, i32_w]; rfl
            refine pure_ (i := 28) (N := some 48) (v := undef) (a' := ?_) #[t_,t_,t_,t_,t_,t_,t_,t_,t_,t_,t_,t_,t_,t_,t_,t_,t_,t_,t_,t_,t_,t_,t_,t_,t_,t_,t_,t_,t_,f_,f_,f_,f_,f_,f_] rfl rfl (any_of HT_.out (by kernel_rfl)) (fun _ _ _ h => h) (Or.inr ⟨by rfl, rfl⟩) ?_ ?_; rotate_left
            · simp only [Act.put, sib_, sc0_, sc1_, i64_w, i32_w]; rfl
            refine pure_ (i := 29) (N := some 49) (v := undef) (a' := ?_) #[t_,t_,t_,t_,t_,t_,t_,t_,t_,t_,t_,t_,t_,t_,t_,t_,t_,t_,t_,t_,t_,t_,t_,t_,t_,t_,t_,t_,t_,t_,f_,f_,f_,f_,f_] rfl rfl (any_of HT_.out (by kernel_rfl)) (fun _ _ _ h => h) (Or.inr ⟨by rfl, rfl⟩) ?_ ?_; rotate_left
            · simp only [Act.put, sib_, sc0_, sc1_, i64_w, i32_w]; rfl
            refine pure_ (i := 30) (N := some 50) (v := undef) (a' := ?_) #[t_,t_,t_,t_,t_,t_,t_,t_,t_,t_,t_,t_,t_,t_,t_,t_,t_,t_,t_,t_,t_,t_,t_,t_,t_,t_,t_,t_,t_,t_,t_,f_,f_,f_,f_] rfl rfl (any_of HT_.out (by kernel_rfl)) (fun _ _ _ h => h) (Or.inr ⟨by rfl, rfl⟩) ?_ ?_; rotate_left
            · simp only [Act.put, sib_, sc0_, sc1_, i64_w, i32_w]; rfl
            refine pure_ (i := 31) (N := some 51) (v := undef) (a' := ?_) #[t_,t_,t_,t_,t_,t_,t_,t_,t_,t_,t_,t_,t_,t_,t_,t_,t_,t_,t_,t_,t_,t_,t_,t_,t_,t_,t_,t_,t_,t_,t_,t_,f_,f_,f_] rfl rfl (any_of HT_.out (by kernel_rfl)) (fun _ _ _ h => h) (Or.inr ⟨by rfl, rfl⟩) ?_ ?_; rotate_left
            · simp only [Act.put, sib_, sc0_, sc1_, i64_w, i32_w]; rfl
            refine pure_ (i := 32) (N := some 52) (v := undef) (a' := ?_) #[t_,t_,t_,t_,t_,t_,t_,t_,t_,t_,t_,t_,t_,t_,t_,t_,t_,t_,t_,t_,t_,t_,t_,t_,t_,t_,t_,t_,t_,t_,t_,t_,t_,f_,f_] rfl rfl (any_of HT_.out (by kernel_rfl)) (fun _ _ _ h => h) (Or.inr ⟨by rfl, rfl⟩) ?_ ?_; rotate_left
            · simp only [Act.put, sib_, sc0_, sc1_, i64_w, i32_w]; rfl
            refine pure_ (i := 33) (N := some 53) (v := ?_) (a' := ?_) #[t_,t_,t_,t_,t_,t_,t_,t_,t_,t_,t_,t_,t_,t_,t_,t_,t_,t_,t_,t_,t_,t_,t_,t_,t_,t_,t_,t_,t_,t_,t_,t_,t_,t_,f_] rfl rfl (any_of HT_.out (by kernel_rfl)) (fun _ _ _ h => h) (Or.inl ⟨by rfl, ?_⟩) ?_ ?_; rotate_left
            · intro w'; go_simp; with_reducible rfl
            rotate_left
            · simp only [Act.put, sib_, sc0_, sc1_, i64_w, i32_w]; rfl
            refine pure_ (i := 34) (N := some 54) (v := ?_) (a' := ?_) #[t_,t_,t_,t_,t_,t_,t_,t_,t_,t_,t_,t_,t_,t_,t_,t_,t_,t_,t_,t_,t_,t_,t_,t_,t_,t_,t_,t_,t_,t_,t_,t_,t_,t_,t_] rfl rfl (any_of HT_.out (by kernel_rfl)) (fun _ _ _ h => h) (Or.inl ⟨by rfl, ?_⟩) ?_ ?_; rotate_left
            · intro w'; go_simp; with_reducible rfl
            rotate_left
            · simp only [Act.put, sib_, sc0_, sc1_, i64_w, i32_w]; rfl
            refine done_ (done_of HT_.out (by kernel_rfl)) ?_
            try go_wp2
            go_roundg k2
            case measure => have := HK1.out; have := HK2.out; omega
            case rel => exact ⟨(ji12), (by first | rfl | (simp; done) | (simp only [← hji12] <;> (first | rfl | simp)) | (simp [*]; done)), H', ⟨by have := HK1.out; have := HK2.out; omega⟩, ⟨by (with_reducible repeat (first | apply Kd.R_alloc | apply Kd.R_drewN | apply Kd.R_drew)); exact HO_3.out⟩, ⟨by (with_reducible repeat (first | refine blk_drewN ?_ _ | refine blk_drew ?_ | refine blk_alloc ?_ _)); exact BK126.out⟩, ⟨by (with_reducible repeat (first | refine blk_drewN ?_ _ | refine blk_drew ?_ | refine blk_alloc ?_ _)); exact BK128.out⟩, ⟨by repeat (first | (with_reducible first | exact HB.out | apply below_alloc | apply pw_below_drewN | apply below_drew1 | refine below_setA ?_ (by assumption)) | exact HB.out)⟩⟩
          · rw [if_neg c15] at H
            have c15b0 : decide (((rd_T87 l0_2 x14_1).f0) < ((rd_T87 x3_1 (ji12)).f0)) = false := decide_eq_false c15
            clear c15
            by_cases c17 : ((rd_T87 l0_2 x14_1).f0) = ((rd_T87 x3_1 (ji12)).f0)
            · rw [if_pos c17] at H
              have c17b0 : (((rd_T87 l0_2 x14_1).f0) == ((rd_T87 x3_1 (ji12)).f0)) = true := beq_iff_eq.mpr c17
              have c17b1 : (((rd_T87 l0_2 x14_1).f0) != ((rd_T87 x3_1 (ji12)).f0)) = false := bne_eq_false_iff_eq.mpr c17
              clear c17
              by_cases c18 : ((rd_T87 l0_2 x14_1).f1) < ((rd_T87 x3_1 (ji12)).f1)
              · rw [if_pos c18] at H
                have c18b0 : decide (((rd_T87 l0_2 x14_1).f1) < ((rd_T87 x3_1 (ji12)).f1)) = true := decide_eq_true c18
                clear c18
                have H' := As_ H
                clear H
                try go_wp2
                replace HO_3 := As_ (Kd.R_drew HO_3.out)
                replace BK126 := As_ (blk_drew BK126.out)
                replace BK128 := As_ (blk_drew BK128.out)
                replace HB := As_ (below_drew1 HB.out)
                have p129 : 0 ≤ ((ji12) : Int) := of_decide_eq_true (by first | (with_reducible assumption) | assumption)
                have q129 : (ji12) < (x3_1.length : Int) := of_decide_eq_true (by first | (with_reducible assumption) | assumption)
                obtain ⟨ad129, e129, hx129_0, hx129_1, hx129_2⟩ := at_T87 (Kd.R_reads' HO_3.out).2.2 (ji12) p129 q129
                cases e129
                replace p129 := eq_true p129
                replace q129 := eq_true q129
                have p130 : 0 ≤ ((ji12) : Int) := of_decide_eq_true (by first | (with_reducible assumption) | assumption)
                have q130 : (ji12) < (x3_1.length : Int) := of_decide_eq_true (by first | (with_reducible assumption) | assumption)
                obtain ⟨ad130, e130, hx130_0, hx130_1, hx130_2⟩ := at_T87 (Kd.R_reads' HO_3.out).2.2 (ji12) p130 q130
                obtain rfl : ad129 = ad130 := (by injection e130)
                replace p130 := eq_true p130
                replace q130 := eq_true q130
                have p131 : 0 ≤ ((ji12) : Int) := of_decide_eq_true (by first | (with_reducible assumption) | assumption)
                have q131 : (ji12) < (x3_1.length : Int) := of_decide_eq_true (by first | (with_reducible assumption) | assumption)
                obtain ⟨ad131, e131, hx131_0, hx131_1, hx131_2⟩ := at_T87 (Kd.R_reads' HO_3.out).2.2 (ji12) p131 q131
                obtain rfl : ad129 = ad131 := (by injection e131)
                replace p131 := eq_true p131
                replace q131 := eq_true q131
                refine start_ (n := 35) (S := fun w' => w'.cell? ⟨gb128, 0, none⟩ = some (.int .i64 ((rd_T87 l0_2 x14_1).f0)) ∧ w'.cell? ⟨gb128, 1, none⟩ = some (.int .i64 ((rd_T87 l0_2 x14_1).f1)) ∧ w'.cell? ⟨gb128, 2, none⟩ = some (.int .i64 ((rd_T87 l0_2 x14_1).f2)) ∧ w'.cell? (ad129.add (((ji12)).toNat * 3)) = some (.int .i64 ((rd_T87 x3_1 (ji12)).f0)) ∧ w'.cell? ⟨(ad129.add (((ji12)).toNat * 3)).block, (ad129.add (((ji12)).toNat * 3)).off + 1, none⟩ = some (.int .i64 ((rd_T87 x3_1 (ji12)).f1)) ∧ w'.cell? ⟨(ad129.add (((ji12)).toNat * 3)).block, (ad129.add (((ji12)).toNat * 3)).off + 2, none⟩ = some (.int .i64 ((rd_T87 x3_1 (ji12)).f2)) ∧ w'.cell? (ad129.add (((ji12)).toNat * 3)) = some (.int .i64 ((rd_T87 x3_1 (ji12)).f0)) ∧ w'.cell? ⟨(ad129.add (((ji12)).toNat * 3)).block, (ad129.add (((ji12)).toNat * 3)).off + 1, none⟩ = some (.int .i64 ((rd_T87 x3_1 (ji12)).f1)) ∧ w'.cell? ⟨(ad129.add (((ji12)).toNat * 3)).block, (ad129.add (((ji12)).toNat * 3)).off + 2, none⟩ = some (.int .i64 ((rd_T87 x3_1 (ji12)).f2)) ∧ w'.cell? (ad129.add (((ji12)).toNat * 3)) = some (.int .i64 ((rd_T87 x3_1 (ji12)).f0)) ∧ w'.cell? ⟨(ad129.add (((ji12)).toNat * 3)).block, (ad129.add (((ji12)).toNat * 3)).off + 1, none⟩ = some (.int .i64 ((rd_T87 x3_1 (ji12)).f1)) ∧ w'.cell? ⟨(ad129.add (((ji12)).toNat * 3)).block, (ad129.add (((ji12)).toNat * 3)).off + 2, none⟩ = some (.int .i64 ((rd_T87 x3_1 (ji12)).f2))) (ds := []) #[f_,f_,f_,f_,f_,f_,f_,f_,f_,f_,f_,f_,f_,f_,f_,f_,f_,f_,f_,f_,f_,f_,f_,f_,f_,f_,f_,f_,f_,f_,f_,f_,f_,f_,f_] (by kernel_rfl) rfl rfl ⟨(blk_cell BK128.out 0).trans rfl, (blk_cell BK128.out 1).trans rfl, (blk_cell BK128.out 2).trans rfl, hx129_0, hx129_1, hx129_2, hx130_0, hx130_1, hx130_2, hx131_0, hx131_1, hx131_2⟩ (fun hHeld => ?_); refine with_tabW spec_stSides.tab6 spec_stSides.bits6 (fun HT_ HW_ => ?_)
                generalize wr.drew = w19 at HO_3 BK126 BK128 HB hx129_0 hx129_1 hx129_2 hx130_0 hx130_1 hx130_2 hx131_0 hx131_1 hx131_2 hHeld ⊢
                refine pure_ (i := 0) (N := some 20) (v := ?_) (a' := ?_) #[t_,f_,f_,f_,f_,f_,f_,f_,f_,f_,f_,f_,f_,f_,f_,f_,f_,f_,f_,f_,f_,f_,f_,f_,f_,f_,f_,f_,f_,f_,f_,f_,f_,f_,f_] rfl rfl (any_of HT_.out (by kernel_rfl)) (fun _ _ _ h => h) (Or.inl ⟨by rfl, ?_⟩) ?_ ?_; rotate_left
                · intro w'; go_simp; with_reducible rfl
                rotate_left
                · simp only [Act.put, sib_, sc0_, sc1_, i64_w, i32_w]; rfl
                refine pure_ (i := 1) (N := some 21) (v := ?_) (a' := ?_) #[t_,t_,f_,f_,f_,f_,f_,f_,f_,f_,f_,f_,f_,f_,f_,f_,f_,f_,f_,f_,f_,f_,f_,f_,f_,f_,f_,f_,f_,f_,f_,f_,f_,f_,f_] rfl rfl (any_of HT_.out (by kernel_rfl)) (fun _ _ _ h => h) (Or.inl ⟨by rfl, ?_⟩) ?_ ?_; rotate_left
                · intro w'; go_simp; with_reducible rfl
                rotate_left
                · simp only [Act.put, sib_, sc0_, sc1_, i64_w, i32_w]; rfl
                refine pure_ (i := 2) (N := some 22) (v := ?_) (a' := ?_) #[t_,t_,t_,f_,f_,f_,f_,f_,f_,f_,f_,f_,f_,f_,f_,f_,f_,f_,f_,f_,f_,f_,f_,f_,f_,f_,f_,f_,f_,f_,f_,f_,f_,f_,f_] rfl rfl (any_of HT_.out (by kernel_rfl)) (fun _ _ _ h => h) (Or.inl ⟨by rfl, ?_⟩) ?_ ?_; rotate_left
                · intro w'; go_simp; with_reducible rfl
                rotate_left
                · simp only [Act.put, sib_, sc0_, sc1_, i64_w, i32_w]; rfl
                refine pure_ (i := 3) (N := some 23) (v := ?_) (a' := ?_) #[t_,t_,t_,t_,f_,f_,f_,f_,f_,f_,f_,f_,f_,f_,f_,f_,f_,f_,f_,f_,f_,f_,f_,f_,f_,f_,f_,f_,f_,f_,f_,f_,f_,f_,f_] rfl rfl (any_of HT_.out (by kernel_rfl)) (fun _ _ _ h => h) (Or.inl ⟨by rfl, ?_⟩) ?_ ?_; rotate_left
                · intro w'; go_simp; with_reducible rfl
                rotate_left
                · simp only [Act.put, sib_, sc0_, sc1_, i64_w, i32_w]; rfl
                refine pure_ (i := 5) (N := some 25) (v := ?_) (a' := ?_) #[t_,t_,t_,t_,f_,t_,f_,f_,f_,f_,f_,f_,f_,f_,f_,f_,f_,f_,f_,f_,f_,f_,f_,f_,f_,f_,f_,f_,f_,f_,f_,f_,f_,f_,f_] rfl rfl (any_of HT_.out (by kernel_rfl)) (fun _ _ _ h => h) (Or.inl ⟨by rfl, ?_⟩) ?_ ?_; rotate_left
                · intro w'; go_simp; with_reducible rfl
                rotate_left
                · simp only [Act.put, sib_, sc0_, sc1_, i64_w, i32_w]; rfl
                refine pure_ (i := 6) (N := some 26) (v := ?_) (a' := ?_) #[t_,t_,t_,t_,f_,t_,t_,f_,f_,f_,f_,f_,f_,f_,f_,f_,f_,f_,f_,f_,f_,f_,f_,f_,f_,f_,f_,f_,f_,f_,f_,f_,f_,f_,f_] rfl rfl (any_of HT_.out (by kernel_rfl)) (fun _ _ _ h => h) (Or.inl ⟨by rfl, ?_⟩) ?_ ?_; rotate_left
                · intro w'; go_simp; with_reducible rfl
                rotate_left
                · simp only [Act.put, sib_, sc0_, sc1_, i64_w, i32_w]; rfl
                refine pure_ (i := 7) (N := some 27) (v := ?_) (a' := ?_) #[t_,t_,t_,t_,f_,t_,t_,t_,f_,f_,f_,f_,f_,f_,f_,f_,f_,f_,f_,f_,f_,f_,f_,f_,f_,f_,f_,f_,f_,f_,f_,f_,f_,f_,f_] rfl rfl (any_of HT_.out (by kernel_rfl)) (fun _ _ _ h => h) (Or.inl ⟨by rfl, ?_⟩) ?_ ?_; rotate_left
                · intro w'; go_simp; with_reducible rfl
                rotate_left
                · simp only [Act.put, sib_, sc0_, sc1_, i64_w, i32_w]; rfl
                refine pure_ (i := 8) (N := some 28) (v := ?_) (a' := ?_) #[t_,t_,t_,t_,f_,t_,t_,t_,t_,f_,f_,f_,f_,f_,f_,f_,f_,f_,f_,f_,f_,f_,f_,f_,f_,f_,f_,f_,f_,f_,f_,f_,f_,f_,f_] rfl rfl (any_of HT_.out (by kernel_rfl)) (fun _ _ _ h => h) (Or.inl ⟨by rfl, ?_⟩) ?_ ?_; rotate_left
                · intro w'; go_simp; with_reducible rfl
                rotate_left
                · simp only [Act.put, sib_, sc0_, sc1_, i64_w, i32_w]; rfl
                refine pure_ (i := 9) (N := some 29) (v := ?_) (a' := ?_) #[t_,t_,t_,t_,f_,t_,t_,t_,t_,t_,f_,f_,f_,f_,f_,f_,f_,f_,f_,f_,f_,f_,f_,f_,f_,f_,f_,f_,f_,f_,f_,f_,f_,f_,f_] rfl rfl (any_of HT_.out (by kernel_rfl)) (fun _ _ _ h => h) (Or.inl ⟨by rfl, ?_⟩) ?_ ?_; rotate_left
                · intro w'; go_simp; with_reducible rfl
                rotate_left
                · simp only [Act.put, sib_, sc0_, sc1_, i64_w, i32_w]; rfl
                refine take_ (i := 4) (N := some 24) (v := ?_) (a' := ?_) #[t_,t_,t_,t_,t_,t_,t_,t_,t_,t_,f_,f_,f_,f_,f_,f_,f_,f_,f_,f_,f_,f_,f_,f_,f_,f_,f_,f_,f_,f_,f_,f_,f_,f_,f_] rfl rfl (take_ofW HT_.out HW_.out (by kernel_rfl)) (fun _ _ _ h => h) (Or.inl ⟨by rfl, ?_⟩) hHeld ?_ ?_; rotate_left
                · rintro w' ⟨s0, s1, s2, s3, s4, s5, s6, s7, s8, s9, s10, s11⟩
                  go_simp
                  with_reducible rfl
                rotate_left
                · simp only [Act.put, sib_, sc0_, sc1_, i64_w, i32_w]; rfl
                refine take_ (i := 10) (N := some 30) (v := ?_) (a' := ?_) #[t_,t_,t_,t_,t_,t_,t_,t_,t_,t_,t_,f_,f_,f_,f_,f_,f_,f_,f_,f_,f_,f_,f_,f_,f_,f_,f_,f_,f_,f_,f_,f_,f_,f_,f_] rfl rfl (take_ofW HT_.out HW_.out (by kernel_rfl)) (fun _ _ _ h => h) (Or.inl ⟨by rfl, ?_⟩) hHeld ?_ ?_; rotate_left
                · rintro w' ⟨s0, s1, s2, s3, s4, s5, s6, s7, s8, s9, s10, s11⟩
                  go_simp
                  with_reducible rfl
                rotate_left
                · simp only [Act.put, sib_, sc0_, sc1_, i64_w, i32_w]; rfl
                refine pure_ (i := 11) (N := some 31) (v := ?_) (a' := ?_) #[t_,t_,t_,t_,t_,t_,t_,t_,t_,t_,t_,t_,f_,f_,f_,f_,f_,f_,f_,f_,f_,f_,f_,f_,f_,f_,f_,f_,f_,f_,f_,f_,f_,f_,f_] rfl rfl (any_of HT_.out (by kernel_rfl)) (fun _ _ _ h => h) (Or.inl ⟨by rfl, ?_⟩) ?_ ?_; rotate_left
                · intro w'; go_simp; with_reducible rfl
                rotate_left
                · simp only [Act.put, sib_, sc0_, sc1_, i64_w, i32_w]; rfl
                refine pure_ (i := 12) (N := some 32) (v := ?_) (a' := ?_) #[t_,t_,t_,t_,t_,t_,t_,t_,t_,t_,t_,t_,t_,f_,f_,f_,f_,f_,f_,f_,f_,f_,f_,f_,f_,f_,f_,f_,f_,f_,f_,f_,f_,f_,f_] rfl rfl (any_of HT_.out (by kernel_rfl)) (fun _ _ _ h => h) (Or.inl ⟨by rfl, ?_⟩) ?_ ?_; rotate_left
                · intro w'; go_simp; with_reducible rfl
                rotate_left
                · simp only [Act.put, sib_, sc0_, sc1_, i64_w, i32_w]; rfl
                refine pure_ (i := 13) (N := some 33) (v := ?_) (a' := ?_) #[t_,t_,t_,t_,t_,t_,t_,t_,t_,t_,t_,t_,t_,t_,f_,f_,f_,f_,f_,f_,f_,f_,f_,f_,f_,f_,f_,f_,f_,f_,f_,f_,f_,f_,f_] rfl rfl (any_of HT_.out (by kernel_rfl)) (fun _ _ _ h => h) (Or.inl ⟨by rfl, ?_⟩) ?_ ?_; rotate_left
                · intro w'; go_simp; with_reducible rfl
                rotate_left
                · simp only [Act.put, sib_, sc0_, sc1_, i64_w, i32_w]; rfl
                refine pure_ (i := 15) (N := some 35) (v := ?_) (a' := ?_) #[t_,t_,t_,t_,t_,t_,t_,t_,t_,t_,t_,t_,t_,t_,f_,t_,f_,f_,f_,f_,f_,f_,f_,f_,f_,f_,f_,f_,f_,f_,f_,f_,f_,f_,f_] rfl rfl (any_of HT_.out (by kernel_rfl)) (fun _ _ _ h => h) (Or.inl ⟨by rfl, ?_⟩) ?_ ?_; rotate_left
                · intro w'; go_simp; with_reducible rfl
                rotate_left
                · simp only [Act.put, sib_, sc0_, sc1_, i64_w, i32_w]; rfl
                refine pure_ (i := 16) (N := some 36) (v := ?_) (a' := ?_) #[t_,t_,t_,t_,t_,t_,t_,t_,t_,t_,t_,t_,t_,t_,f_,t_,t_,f_,f_,f_,f_,f_,f_,f_,f_,f_,f_,f_,f_,f_,f_,f_,f_,f_,f_] rfl rfl (any_of HT_.out (by kernel_rfl)) (fun _ _ _ h => h) (Or.inl ⟨by rfl, ?_⟩) ?_ ?_; rotate_left
                · intro w'; go_simp; with_reducible rfl
                rotate_left
                · simp only [Act.put, sib_, sc0_, sc1_, i64_w, i32_w]; rfl
                refine pure_ (i := 17) (N := some 37) (v := ?_) (a' := ?_) #[t_,t_,t_,t_,t_,t_,t_,t_,t_,t_,t_,t_,t_,t_,f_,t_,t_,t_,f_,f_,f_,f_,f_,f_,f_,f_,f_,f_,f_,f_,f_,f_,f_,f_,f_] rfl rfl (any_of HT_.out (by kernel_rfl)) (fun _ _ _ h => h) (Or.inl ⟨by rfl, ?_⟩) ?_ ?_; rotate_left
                · intro w'; go_simp; with_reducible rfl
                rotate_left
                · simp only [Act.put, sib_, sc0_, sc1_, i64_w, i32_w]; rfl
                refine pure_ (i := 18) (N := some 38) (v := ?_) (a' := ?_) #[t_,t_,t_,t_,t_,t_,t_,t_,t_,t_,t_,t_,t_,t_,f_,t_,t_,t_,t_,f_,f_,f_,f_,f_,f_,f_,f_,f_,f_,f_,f_,f_,f_,f_,f_] rfl rfl (any_of HT_.out (by kernel_rfl)) (fun _ _ _ h => h) (Or.inl ⟨by rfl, ?_⟩) ?_ ?_; rotate_left
                · intro w'; go_simp; with_reducible rfl
                rotate_left
                · simp only [Act.put, sib_, sc0_, sc1_, i64_w, i32_w]; rfl
                refine pure_ (i := 19) (N := some 39) (v := ?_) (a' := ?_) #[t_,t_,t_,t_,t_,t_,t_,t_,t_,t_,t_,t_,t_,t_,f_,t_,t_,t_,t_,t_,f_,f_,f_,f_,f_,f_,f_,f_,f_,f_,f_,f_,f_,f_,f_] rfl rfl (any_of HT_.out (by kernel_rfl)) (fun _ _ _ h => h) (Or.inl ⟨by rfl, ?_⟩) ?_ ?_; rotate_left
                · intro w'; go_simp; with_reducible rfl
                rotate_left
                · simp only [Act.put, sib_, sc0_, sc1_, i64_w, i32_w]; rfl
                refine take_ (i := 14) (N := some 34) (v := ?_) (a' := ?_) #[t_,t_,t_,t_,t_,t_,t_,t_,t_,t_,t_,t_,t_,t_,t_,t_,t_,t_,t_,t_,f_,f_,f_,f_,f_,f_,f_,f_,f_,f_,f_,f_,f_,f_,f_] rfl rfl (take_ofW HT_.out HW_.out (by kernel_rfl)) (fun _ _ _ h => h) (Or.inl ⟨by rfl, ?_⟩) hHeld ?_ ?_; rotate_left
                · rintro w' ⟨s0, s1, s2, s3, s4, s5, s6, s7, s8, s9, s10, s11⟩
                  go_simp
                  with_reducible rfl
                rotate_left
                · simp only [Act.put, sib_, sc0_, sc1_, i64_w, i32_w]; rfl
                refine take_ (i := 20) (N := some 40) (v := ?_) (a' := ?_) #[t_,t_,t_,t_,t_,t_,t_,t_,t_,t_,t_,t_,t_,t_,t_,t_,t_,t_,t_,t_,t_,f_,f_,f_,f_,f_,f_,f_,f_,f_,f_,f_,f_,f_,f_] rfl rfl (take_ofW HT_.out HW_.out (by kernel_rfl)) (fun _ _ _ h => h) (Or.inl ⟨by rfl, ?_⟩) hHeld ?_ ?_; rotate_left
                · rintro w' ⟨s0, s1, s2, s3, s4, s5, s6, s7, s8, s9, s10, s11⟩
                  go_simp
                  with_reducible rfl
                rotate_left
                · simp only [Act.put, sib_, sc0_, sc1_, i64_w, i32_w]; rfl
                refine pure_ (i := 21) (N := some 41) (v := ?_) (a' := ?_) #[t_,t_,t_,t_,t_,t_,t_,t_,t_,t_,t_,t_,t_,t_,t_,t_,t_,t_,t_,t_,t_,t_,f_,f_,f_,f_,f_,f_,f_,f_,f_,f_,f_,f_,f_] rfl rfl (any_of HT_.out (by kernel_rfl)) (fun _ _ _ h => h) (Or.inl ⟨by rfl, ?_⟩) ?_ ?_; rotate_left
                · intro w'; go_simp; with_reducible rfl
                rotate_left
                · simp only [Act.put, sib_, sc0_, sc1_, i64_w, i32_w]; rfl
                refine pure_ (i := 22) (N := some 42) (v := ?_) (a' := ?_) #[t_,t_,t_,t_,t_,t_,t_,t_,t_,t_,t_,t_,t_,t_,t_,t_,t_,t_,t_,t_,t_,t_,t_,f_,f_,f_,f_,f_,f_,f_,f_,f_,f_,f_,f_] rfl rfl (any_of HT_.out (by kernel_rfl)) (fun _ _ _ h => h) (Or.inl ⟨by rfl, ?_⟩) ?_ ?_; rotate_left
                · intro w'; go_simp; with_reducible rfl
                rotate_left
                · simp only [Act.put, sib_, sc0_, sc1_, i64_w, i32_w]; rfl
                refine pure_ (i := 23) (N := some 43) (v := ?_) (a' := ?_) #[t_,t_,t_,t_,t_,t_,t_,t_,t_,t_,t_,t_,t_,t_,t_,t_,t_,t_,t_,t_,t_,t_,t_,t_,f_,f_,f_,f_,f_,f_,f_,f_,f_,f_,f_] rfl rfl (any_of HT_.out (by kernel_rfl)) (fun _ _ _ h => h) (Or.inl ⟨by rfl, ?_⟩) ?_ ?_; rotate_left
                · intro w'; go_simp; with_reducible rfl
                rotate_left
                · simp only [Act.put, sib_, sc0_, sc1_, i64_w, i32_w]; rfl
                refine pure_ (i := 25) (N := some 45) (v := ?_) (a' := ?_) #[t_,t_,t_,t_,t_,t_,t_,t_,t_,t_,t_,t_,t_,t_,t_,t_,t_,t_,t_,t_,t_,t_,t_,t_,f_,t_,f_,f_,f_,f_,f_,f_,f_,f_,f_] rfl rfl (any_of HT_.out (by kernel_rfl)) (fun _ _ _ h => h) (Or.inl ⟨by rfl, ?_⟩) ?_ ?_; rotate_left
                · intro w'; go_simp; with_reducible rfl
                rotate_left
                · simp only [Act.put, sib_, sc0_, sc1_, i64_w, i32_w]; rfl
                refine pure_ (i := 26) (N := some 46) (v := ?_) (a' := ?_) #[t_,t_,t_,t_,t_,t_,t_,t_,t_,t_,t_,t_,t_,t_,t_,t_,t_,t_,t_,t_,t_,t_,t_,t_,f_,t_,t_,f_,f_,f_,f_,f_,f_,f_,f_] rfl rfl (any_of HT_.out (by kernel_rfl)) (fun _ _ _ h => h) (Or.inl ⟨by rfl, ?_⟩) ?_ ?_; rotate_left
                · intro w'; go_simp; with_reducible rfl
                rotate_left
                · simp only [Act.put, sib_, sc0_, sc1_, i64_w, i32_w]; rfl
                refine pure_ (i := 27) (N := some 47) (v := ?_) (a' := ?_) #[t_,t_,t_,t_,t_,t_,t_,t_,t_,t_,t_,t_,t_,t_,t_,t_,t_,t_,t_,t_,t_,t_,t_,t_,f_,t_,t_,t_,f_,f_,f_,f_,f_,f_,f_] rfl rfl (any_of HT_.out (by kernel_rfl)) (fun _ _ _ h => h) (Or.inl ⟨by rfl, ?_⟩) ?_ ?_; rotate_left
                · intro w'; go_simp; with_reducible rfl
                rotate_left
                · simp only [Act.put, sib_, sc0_, sc1_, i64_w, i32_w]; rfl
                refine pure_ (i := 28) (N := some 48) (v := ?_) (a' := ?_) #[t_,t_,t_,t_,t_,t_,t_,t_,t_,t_,t_,t_,t_,t_,t_,t_,t_,t_,t_,t_,t_,t_,t_,t_,f_,t_,t_,t_,t_,f_,f_,f_,f_,f_,f_] rfl rfl (any_of HT_.out (by kernel_rfl)) (fun _ _ _ h => h) (Or.inl ⟨by rfl, ?_⟩) ?_ ?_; rotate_left
                · intro w'; go_simp; with_reducible rfl
                rotate_left
                · simp only [Act.put, sib_, sc0_, sc1_, i64_w, i32_w]; rfl
                refine pure_ (i := 29) (N := some 49) (v := ?_) (a' := ?_) #[t_,t_,t_,t_,t_,t_,t_,t_,t_,t_,t_,t_,t_,t_,t_,t_,t_,t_,t_,t_,t_,t_,t_,t_,f_,t_,t_,t_,t_,t_,f_,f_,f_,f_,f_] rfl rfl (any_of HT_.out (by kernel_rfl)) (fun _ _ _ h => h) (Or.inl ⟨by rfl, ?_⟩) ?_ ?_; rotate_left
                · intro w'; go_simp; with_reducible rfl
                rotate_left
                · simp only [Act.put, sib_, sc0_, sc1_, i64_w, i32_w]; rfl
                refine take_ (i := 24) (N := some 44) (v := ?_) (a' := ?_) #[t_,t_,t_,t_,t_,t_,t_,t_,t_,t_,t_,t_,t_,t_,t_,t_,t_,t_,t_,t_,t_,t_,t_,t_,t_,t_,t_,t_,t_,t_,f_,f_,f_,f_,f_] rfl rfl (take_ofW HT_.out HW_.out (by kernel_rfl)) (fun _ _ _ h => h) (Or.inl ⟨by rfl, ?_⟩) hHeld ?_ ?_; rotate_left
                · rintro w' ⟨s0, s1, s2, s3, s4, s5, s6, s7, s8, s9, s10, s11⟩
                  go_simp
                  with_reducible rfl
                rotate_left
                · simp only [Act.put, sib_, sc0_, sc1_, i64_w, i32_w]; rfl
                refine take_ (i := 30) (N := some 50) (v := ?_) (a' := ?_) #[t_,t_,t_,t_,t_,t_,t_,t_,t_,t_,t_,t_,t_,t_,t_,t_,t_,t_,t_,t_,t_,t_,t_,t_,t_,t_,t_,t_,t_,t_,t_,f_,f_,f_,f_] rfl rfl (take_ofW HT_.out HW_.out (by kernel_rfl)) (fun _ _ _ h => h) (Or.inl ⟨by rfl, ?_⟩) hHeld ?_ ?_; rotate_left
                · rintro w' ⟨s0, s1, s2, s3, s4, s5, s6, s7, s8, s9, s10, s11⟩
                  go_simp
                  with_reducible rfl
                rotate_left
                · simp only [Act.put, sib_, sc0_, sc1_, i64_w, i32_w]; rfl
                refine pure_ (i := 31) (N := some 51) (v := ?_) (a' := ?_) #[t_,t_,t_,t_,t_,t_,t_,t_,t_,t_,t_,t_,t_,t_,t_,t_,t_,t_,t_,t_,t_,t_,t_,t_,t_,t_,t_,t_,t_,t_,t_,t_,f_,f_,f_] rfl rfl (any_of HT_.out (by kernel_rfl)) (fun _ _ _ h => h) (Or.inl ⟨by rfl, ?_⟩) ?_ ?_; rotate_left
                · intro w'; go_simp; with_reducible rfl
                rotate_left
                · simp only [Act.put, sib_, sc0_, sc1_, i64_w, i32_w]; rfl
                refine pure_ (i := 32) (N := some 52) (v := ?_) (a' := ?_) #[t_,t_,t_,t_,t_,t_,t_,t_,t_,t_,t_,t_,t_,t_,t_,t_,t_,t_,t_,t_,t_,t_,t_,t_,t_,t_,t_,t_,t_,t_,t_,t_,t_,f_,f_] rfl rfl (any_of HT_.out (by kernel_rfl)) (fun _ _ _ h => h) (Or.inl ⟨by rfl, ?_⟩) ?_ ?_; rotate_left
                · intro w'; go_simp; with_reducible rfl
                rotate_left
                · simp only [Act.put, sib_, sc0_, sc1_, i64_w, i32_w]; rfl
                refine pure_ (i := 33) (N := some 53) (v := ?_) (a' := ?_) #[t_,t_,t_,t_,t_,t_,t_,t_,t_,t_,t_,t_,t_,t_,t_,t_,t_,t_,t_,t_,t_,t_,t_,t_,t_,t_,t_,t_,t_,t_,t_,t_,t_,t_,f_] rfl rfl (any_of HT_.out (by kernel_rfl)) (fun _ _ _ h => h) (Or.inl ⟨by rfl, ?_⟩) ?_ ?_; rotate_left
                · intro w'; go_simp; with_reducible rfl
                rotate_left
                · simp only [Act.put, sib_, sc0_, sc1_, i64_w, i32_w]; rfl
                refine pure_ (i := 34) (N := some 54) (v := ?_) (a' := ?_) #[t_,t_,t_,t_,t_,t_,t_,t_,t_,t_,t_,t_,t_,t_,t_,t_,t_,t_,t_,t_,t_,t_,t_,t_,t_,t_,t_,t_,t_,t_,t_,t_,t_,t_,t_] rfl rfl (any_of HT_.out (by kernel_rfl)) (fun _ _ _ h => h) (Or.inl ⟨by rfl, ?_⟩) ?_ ?_; rotate_left
                · intro w'; go_simp; with_reducible rfl
                rotate_left
                · simp only [Act.put, sib_, sc0_, sc1_, i64_w, i32_w]; rfl
                refine done_ (done_of HT_.out (by kernel_rfl)) ?_
                try go_wp2
                go_roundg k2
                case measure => have := HK1.out; have := HK2.out; omega
                case rel => exact ⟨(ji12), (by first | rfl | (simp; done) | (simp only [← hji12] <;> (first | rfl | simp)) | (simp [*]; done)), H', ⟨by have := HK1.out; have := HK2.out; omega⟩, ⟨by (with_reducible repeat (first | apply Kd.R_alloc | apply Kd.R_drewN | apply Kd.R_drew)); exact HO_3.out⟩, ⟨by (with_reducible repeat (first | refine blk_drewN ?_ _ | refine blk_drew ?_ | refine blk_alloc ?_ _)); exact BK126.out⟩, ⟨by (with_reducible repeat (first | refine blk_drewN ?_ _ | refine blk_drew ?_ | refine blk_alloc ?_ _)); exact BK128.out⟩, ⟨by repeat (first | (with_reducible first | exact HB.out | apply below_alloc | apply pw_below_drewN | apply below_drew1 | refine below_setA ?_ (by assumption)) | exact HB.out)⟩⟩
              · rw [if_neg c18] at H
                have c18b0 : decide (((rd_T87 l0_2 x14_1).f1) < ((rd_T87 x3_1 (ji12)).f1)) = false := decide_eq_false c18
                clear c18
                obtain ⟨y132, hy132⟩ : ∃ y_ : List (S87), y_ = (([] : List (S87))) := ⟨_, rfl⟩
                replace H : (if 0 ≤ x6_2 then (if x6_2 ≤ (x3_1.length : Int) then ((some (x3_1.take (x6_2 : Int).toNat : List (S87))).bind fun y135 => (if y132.length + y135.length < 5864062014805 then ((some (y132 ++ y135 : List (S87))).bind fun y139 => ((some (([(⟨((rd_T87 l0_2 x14_1).f0), ((rd_T87 l0_2 x14_1).f1), ((rd_T87 l0_2 x14_1).f2)⟩ : S87)] : List (S87)) : List (S87))).bind fun y142 => (if y139.length + y142.length < 5864062014805 then ((some (y139 ++ y142 : List (S87))).bind fun y145 => ((some (x3_1.drop (x6_2 : Int).toNat : List (S87))).bind fun y148 => (if y145.length + y148.length < 5864062014805 then (spec_stSides.l0 k2 (y145 ++ y148) l0_2 (l0_2.length : Int) (wrap64 (x14_1 + 1))) else (none)))) else (none)))) else (none))) else (none)) else (none)) = some r := by first | (rw [hy132]; with_reducible exact H) | (have H2_ := (Option.bind_some _ _).symm.trans H; rw [hy132]; with_reducible exact H2_) | (have H2_ := (Option.bind_some _ _).symm.trans H; with_reducible exact H2_) | with_reducible exact H | (rw [hy132]; exact H) | exact H
                have Ny132 := As_ hy132
                clear hy132
                by_cases c20 : 0 ≤ x6_2
                case neg => rw [if_neg c20] at H; exact absurd H (by simp)
                rw [if_pos c20] at H
                have c20b0 := eq_true c20
                have c20b1 : decide (0 ≤ x6_2) = true := decide_eq_true c20
                clear c20
                by_cases c21 : x6_2 ≤ (x3_1.length : Int)
                case neg => rw [if_neg c21] at H; exact absurd H (by simp)
                rw [if_pos c21] at H
                have c21b0 := eq_true c21
                have c21b1 : decide (x6_2 ≤ (x3_1.length : Int)) = true := decide_eq_true c21
                clear c21
                obtain ⟨y135, hy135⟩ : ∃ y_ : List (S87), y_ = (x3_1.take (x6_2 : Int).toNat) := ⟨_, rfl⟩
                replace H : (if y132.length + y135.length < 5864062014805 then ((some (y132 ++ y135 : List (S87))).bind fun y139 => ((some (([(⟨((rd_T87 l0_2 x14_1).f0), ((rd_T87 l0_2 x14_1).f1), ((rd_T87 l0_2 x14_1).f2)⟩ : S87)] : List (S87)) : List (S87))).bind fun y142 => (if y139.length + y142.length < 5864062014805 then ((some (y139 ++ y142 : List (S87))).bind fun y145 => ((some (x3_1.drop (x6_2 : Int).toNat : List (S87))).bind fun y148 => (if y145.length + y148.length < 5864062014805 then (spec_stSides.l0 k2 (y145 ++ y148) l0_2 (l0_2.length : Int) (wrap64 (x14_1 + 1))) else (none)))) else (none)))) else (none)) = some r := by first | (rw [hy135]; with_reducible exact H) | (have H2_ := (Option.bind_some _ _).symm.trans H; rw [hy135]; with_reducible exact H2_) | (have H2_ := (Option.bind_some _ _).symm.trans H; with_reducible exact H2_) | with_reducible exact H | (rw [hy135]; exact H) | exact H
                have Ny135 := As_ hy135
                clear hy135
                by_cases c22 : y132.length + y135.length < 5864062014805
                case neg => rw [if_neg c22] at H; exact absurd H (by simp)
                rw [if_pos c22] at H
                have LMc22 := As_ c22
                clear c22
                obtain ⟨y139, hy139⟩ : ∃ y_ : List (S87), y_ = (y132 ++ y135) := ⟨_, rfl⟩
                replace H : ((some (([(⟨((rd_T87 l0_2 x14_1).f0), ((rd_T87 l0_2 x14_1).f1), ((rd_T87 l0_2 x14_1).f2)⟩ : S87)] : List (S87)) : List (S87))).bind fun y142 => (if y139.length + y142.length < 5864062014805 then ((some (y139 ++ y142 : List (S87))).bind fun y145 => ((some (x3_1.drop (x6_2 : Int).toNat : List (S87))).bind fun y148 => (if y145.length + y148.length < 5864062014805 then (spec_stSides.l0 k2 (y145 ++ y148) l0_2 (l0_2.length : Int) (wrap64 (x14_1 + 1))) else (none)))) else (none))) = some r := by first | (rw [hy139]; with_reducible exact H) | (have H2_ := (Option.bind_some _ _).symm.trans H; rw [hy139]; with_reducible exact H2_) | (have H2_ := (Option.bind_some _ _).symm.trans H; with_reducible exact H2_) | with_reducible exact H | (rw [hy139]; exact H) | exact H
                have Ny139 := As_ hy139
                clear hy139
                obtain ⟨y142, hy142⟩ : ∃ y_ : List (S87), y_ = (([(⟨((rd_T87 l0_2 x14_1).f0), ((rd_T87 l0_2 x14_1).f1), ((rd_T87 l0_2 x14_1).f2)⟩ : S87)] : List (S87))) := ⟨_, rfl⟩
                replace H : (if y139.length + y142.length < 5864062014805 then ((some (y139 ++ y142 : List (S87))).bind fun y145 => ((some (x3_1.drop (x6_2 : Int).toNat : List (S87))).bind fun y148 => (if y145.length + y148.length < 5864062014805 then (spec_stSides.l0 k2 (y145 ++ y148) l0_2 (l0_2.length : Int) (wrap64 (x14_1 + 1))) else (none)))) else (none)) = some r := by first | (rw [hy142]; with_reducible exact H) | (have H2_ := (Option.bind_some _ _).symm.trans H; rw [hy142]; with_reducible exact H2_) | (have H2_ := (Option.bind_some _ _).symm.trans H; with_reducible exact H2_) | with_reducible exact H | (rw [hy142]; exact H) | exact H
                have Ny142 := As_ hy142
                clear hy142
                by_cases c23 : y139.length + y142.length < 5864062014805
                case neg => rw [if_neg c23] at H; exact absurd H (by simp)
                rw [if_pos c23] at H
                have LMc23 := As_ c23
                clear c23
                obtain ⟨y145, hy145⟩ : ∃ y_ : List (S87), y_ = (y139 ++ y142) := ⟨_, rfl⟩
                replace H : ((some (x3_1.drop (x6_2 : Int).toNat : List (S87))).bind fun y148 => (if y145.length + y148.length < 5864062014805 then (spec_stSides.l0 k2 (y145 ++ y148) l0_2 (l0_2.length : Int) (wrap64 (x14_1 + 1))) else (none))) = some r := by first | (rw [hy145]; with_reducible exact H) | (have H2_ := (Option.bind_some _ _).symm.trans H; rw [hy145]; with_reducible exact H2_) | (have H2_ := (Option.bind_some _ _).symm.trans H; with_reducible exact H2_) | with_reducible exact H | (rw [hy145]; exact H) | exact H
                have Ny145 := As_ hy145
                clear hy145
                have c24b0 := eq_true (of_decide_eq_true (by first | (with_reducible assumption) | assumption) : 0 ≤ x6_2)
                have c25b0 := eq_true (of_decide_eq_true (by first | (with_reducible assumption) | assumption) : x6_2 ≤ (x3_1.length : Int))
                obtain ⟨y148, hy148⟩ : ∃ y_ : List (S87), y_ = (x3_1.drop (x6_2 : Int).toNat) := ⟨_, rfl⟩
                replace H : (if y145.length + y148.length < 5864062014805 then (spec_stSides.l0 k2 (y145 ++ y148) l0_2 (l0_2.length : Int) (wrap64 (x14_1 + 1))) else (none)) = some r := by first | (rw [hy148]; with_reducible exact H) | (have H2_ := (Option.bind_some _ _).symm.trans H; rw [hy148]; with_reducible exact H2_) | (have H2_ := (Option.bind_some _ _).symm.trans H; with_reducible exact H2_) | with_reducible exact H | (rw [hy148]; exact H) | exact H
                have Ny148 := As_ hy148
                clear hy148
                by_cases c26 : y145.length + y148.length < 5864062014805
                case neg => rw [if_neg c26] at H; exact absurd H (by simp)
                rw [if_pos c26] at H
                have LMc26 := As_ c26
                clear c26
                obtain ⟨y152, hy152⟩ : ∃ y_ : List (S87), y_ = (y145 ++ y148) := ⟨_, rfl⟩
                replace H : (spec_stSides.l0 k2 y152 l0_2 (l0_2.length : Int) (wrap64 (x14_1 + 1))) = some r := by first | (rw [hy152]; with_reducible exact H) | (have H2_ := (Option.bind_some _ _).symm.trans H; rw [hy152]; with_reducible exact H2_) | (have H2_ := (Option.bind_some _ _).symm.trans H; with_reducible exact H2_) | with_reducible exact H | (rw [hy152]; exact H) | exact H
                have Ny152 := As_ hy152
                clear hy152
                have H' := As_ H
                clear H
                try go_wp2
                replace HO_3 := As_ (Kd.R_drew HO_3.out)
                replace BK126 := As_ (blk_drew BK126.out)
                replace BK128 := As_ (blk_drew BK128.out)
                replace HB := As_ (below_drew1 HB.out)
                have p129 : 0 ≤ ((ji12) : Int) := of_decide_eq_true (by first | (with_reducible assumption) | assumption)
                have q129 : (ji12) < (x3_1.length : Int) := of_decide_eq_true (by first | (with_reducible assumption) | assumption)
                obtain ⟨ad129, e129, hx129_0, hx129_1, hx129_2⟩ := at_T87 (Kd.R_reads' HO_3.out).2.2 (ji12) p129 q129
                cases e129
                replace p129 := eq_true p129
                replace q129 := eq_true q129
                have p130 : 0 ≤ ((ji12) : Int) := of_decide_eq_true (by first | (with_reducible assumption) | assumption)
                have q130 : (ji12) < (x3_1.length : Int) := of_decide_eq_true (by first | (with_reducible assumption) | assumption)
                obtain ⟨ad130, e130, hx130_0, hx130_1, hx130_2⟩ := at_T87 (Kd.R_reads' HO_3.out).2.2 (ji12) p130 q130
                obtain rfl : ad129 = ad130 := (by injection e130)
                replace p130 := eq_true p130
                replace q130 := eq_true q130
                have p131 : 0 ≤ ((ji12) : Int) := of_decide_eq_true (by first | (with_reducible assumption) | assumption)
                have q131 : (ji12) < (x3_1.length : Int) := of_decide_eq_true (by first | (with_reducible assumption) | assumption)
                obtain ⟨ad131, e131, hx131_0, hx131_1, hx131_2⟩ := at_T87 (Kd.R_reads' HO_3.out).2.2 (ji12) p131 q131
                obtain rfl : ad129 = ad131 := (by injection e131)
                replace p131 := eq_true p131
                replace q131 := eq_true q131
                refine start_ (n := 35) (S := fun w' => w'.cell? ⟨gb128, 0, none⟩ = some (.int .i64 ((rd_T87 l0_2 x14_1).f0)) ∧ w'.cell? ⟨gb128, 1, none⟩ = some (.int .i64 ((rd_T87 l0_2 x14_1).f1)) ∧ w'.cell? ⟨gb128, 2, none⟩ = some (.int .i64 ((rd_T87 l0_2 x14_1).f2)) ∧ w'.cell? (ad129.add (((ji12)).toNat * 3)) = some (.int .i64 ((rd_T87 x3_1 (ji12)).f0)) ∧ w'.cell? ⟨(ad129.add (((ji12)).toNat * 3)).block, (ad129.add (((ji12)).toNat * 3)).off + 1, none⟩ = some (.int .i64 ((rd_T87 x3_1 (ji12)).f1)) ∧ w'.cell? ⟨(ad129.add (((ji12)).toNat * 3)).block, (ad129.add (((ji12)).toNat * 3)).off + 2, none⟩ = some (.int .i64 ((rd_T87 x3_1 (ji12)).f2)) ∧ w'.cell? (ad129.add (((ji12)).toNat * 3)) = some (.int .i64 ((rd_T87 x3_1 (ji12)).f0)) ∧ w'.cell? ⟨(ad129.add (((ji12)).toNat * 3)).block, (ad129.add (((ji12)).toNat * 3)).off + 1, none⟩ = some (.int .i64 ((rd_T87 x3_1 (ji12)).f1)) ∧ w'.cell? ⟨(ad129.add (((ji12)).toNat * 3)).block, (ad129.add (((ji12)).toNat * 3)).off + 2, none⟩ = some (.int .i64 ((rd_T87 x3_1 (ji12)).f2)) ∧ w'.cell? (ad129.add (((ji12)).toNat * 3)) = some (.int .i64 ((rd_T87 x3_1 (ji12)).f0)) ∧ w'.cell? ⟨(ad129.add (((ji12)).toNat * 3)).block, (ad129.add (((ji12)).toNat * 3)).off + 1, none⟩ = some (.int .i64 ((rd_T87 x3_1 (ji12)).f1)) ∧ w'.cell? ⟨(ad129.add (((ji12)).toNat * 3)).block, (ad129.add (((ji12)).toNat * 3)).off + 2, none⟩ = some (.int .i64 ((rd_T87 x3_1 (ji12)).f2))) (ds := []) #[f_,f_,f_,f_,f_,f_,f_,f_,f_,f_,f_,f_,f_,f_,f_,f_,f_,f_,f_,f_,f_,f_,f_,f_,f_,f_,f_,f_,f_,f_,f_,f_,f_,f_,f_] (by kernel_rfl) rfl rfl ⟨(blk_cell BK128.out 0).trans rfl, (blk_cell BK128.out 1).trans rfl, (blk_cell BK128.out 2).trans rfl, hx129_0, hx129_1, hx129_2, hx130_0, hx130_1, hx130_2, hx131_0, hx131_1, hx131_2⟩ (fun hHeld => ?_); refine with_tabW spec_stSides.tab6 spec_stSides.bits6 (fun HT_ HW_ => ?_)
                generalize wr.drew = w27 at HO_3 BK126 BK128 HB hx129_0 hx129_1 hx129_2 hx130_0 hx130_1 hx130_2 hx131_0 hx131_1 hx131_2 hHeld ⊢
                refine pure_ (i := 0) (N := some 20) (v := ?_) (a' := ?_) #[t_,f_,f_,f_,f_,f_,f_,f_,f_,f_,f_,f_,f_,f_,f_,f_,f_,f_,f_,f_,f_,f_,f_,f_,f_,f_,f_,f_,f_,f_,f_,f_,f_,f_,f_] rfl rfl (any_of HT_.out (by kernel_rfl)) (fun _ _ _ h => h) (Or.inl ⟨by rfl, ?_⟩) ?_ ?_; rotate_left
                · intro w'; go_simp; with_reducible rfl
                rotate_left
                · simp only [Act.put, sib_, sc0_, sc1_, i64_w, i32_w]; rfl
                refine pure_ (i := 1) (N := some 21) (v := ?_) (a' := ?_) #[t_,t_,f_,f_,f_,f_,f_,f_,f_,f_,f_,f_,f_,f_,f_,f_,f_,f_,f_,f_,f_,f_,f_,f_,f_,f_,f_,f_,f_,f_,f_,f_,f_,f_,f_] rfl rfl (any_of HT_.out (by kernel_rfl)) (fun _ _ _ h => h) (Or.inl ⟨by rfl, ?_⟩) ?_ ?_; rotate_left
                · intro w'; go_simp; with_reducible rfl
                rotate_left
                · simp only [Act.put, sib_, sc0_, sc1_, i64_w, i32_w]; rfl
                refine pure_ (i := 2) (N := some 22) (v := ?_) (a' := ?_) #[t_,t_,t_,f_,f_,f_,f_,f_,f_,f_,f_,f_,f_,f_,f_,f_,f_,f_,f_,f_,f_,f_,f_,f_,f_,f_,f_,f_,f_,f_,f_,f_,f_,f_,f_] rfl rfl (any_of HT_.out (by kernel_rfl)) (fun _ _ _ h => h) (Or.inl ⟨by rfl, ?_⟩) ?_ ?_; rotate_left
                · intro w'; go_simp; with_reducible rfl
                rotate_left
                · simp only [Act.put, sib_, sc0_, sc1_, i64_w, i32_w]; rfl
                refine pure_ (i := 3) (N := some 23) (v := ?_) (a' := ?_) #[t_,t_,t_,t_,f_,f_,f_,f_,f_,f_,f_,f_,f_,f_,f_,f_,f_,f_,f_,f_,f_,f_,f_,f_,f_,f_,f_,f_,f_,f_,f_,f_,f_,f_,f_] rfl rfl (any_of HT_.out (by kernel_rfl)) (fun _ _ _ h => h) (Or.inl ⟨by rfl, ?_⟩) ?_ ?_; rotate_left
                · intro w'; go_simp; with_reducible rfl
                rotate_left
                · simp only [Act.put, sib_, sc0_, sc1_, i64_w, i32_w]; rfl
                refine pure_ (i := 5) (N := some 25) (v := ?_) (a' := ?_) #[t_,t_,t_,t_,f_,t_,f_,f_,f_,f_,f_,f_,f_,f_,f_,f_,f_,f_,f_,f_,f_,f_,f_,f_,f_,f_,f_,f_,f_,f_,f_,f_,f_,f_,f_] rfl rfl (any_of HT_.out (by kernel_rfl)) (fun _ _ _ h => h) (Or.inl ⟨by rfl, ?_⟩) ?_ ?_; rotate_left
                · intro w'; go_simp; with_reducible rfl
                rotate_left
                · simp only [Act.put, sib_, sc0_, sc1_, i64_w, i32_w]; rfl
                refine pure_ (i := 6) (N := some 26) (v := ?_) (a' := ?_) #[t_,t_,t_,t_,f_,t_,t_,f_,f_,f_,f_,f_,f_,f_,f_,f_,f_,f_,f_,f_,f_,f_,f_,f_,f_,f_,f_,f_,f_,f_,f_,f_,f_,f_,f_] rfl rfl (any_of HT_.out (by kernel_rfl)) (fun _ _ _ h => h) (Or.inl ⟨by rfl, ?_⟩) ?_ ?_; rotate_left
                · intro w'; go_simp; with_reducible rfl
                rotate_left
                · simp only [Act.put, sib_, sc0_, sc1_, i64_w, i32_w]; rfl
                refine pure_ (i := 7) (N := some 27) (v := ?_) (a' := ?_) #[t_,t_,t_,t_,f_,t_,t_,t_,f_,f_,f_,f_,f_,f_,f_,f_,f_,f_,f_,f_,f_,f_,f_,f_,f_,f_,f_,f_,f_,f_,f_,f_,f_,f_,f_] rfl rfl (any_of HT_.out (by kernel_rfl)) (fun _ _ _ h => h) (Or.inl ⟨by rfl, ?_⟩) ?_ ?_; rotate_left
                · intro w'; go_simp; with_reducible rfl
                rotate_left
                · simp only [Act.put, sib_, sc0_, sc1_, i64_w, i32_w]; rfl
                refine pure_ (i := 8) (N := some 28) (v := ?_) (a' := ?_) #[t_,t_,t_,t_,f_,t_,t_,t_,t_,f_,f_,f_,f_,f_,f_,f_,f_,f_,f_,f_,f_,f_,f_,f_,f_,f_,f_,f_,f_,f_,f_,f_,f_,f_,f_] rfl rfl (any_of HT_.out (by kernel_rfl)) (fun _ _ _ h => h) (Or.inl ⟨by rfl, ?_⟩) ?_ ?_; rotate_left
                · intro w'; go_simp; with_reducible rfl
                rotate_left
                · simp only [Act.put, sib_, sc0_, sc1_, i64_w, i32_w]; rfl
                refine pure_ (i := 9) (N := some 29) (v := ?_) (a' := ?_) #[t_,t_,t_,t_,f_,t_,t_,t_,t_,t_,f_,f_,f_,f_,f_,f_,f_,f_,f_,f_,f_,f_,f_,f_,f_,f_,f_,f_,f_,f_,f_,f_,f_,f_,f_] rfl rfl (any_of HT_.out (by kernel_rfl)) (fun _ _ _ h => h) (Or.inl ⟨by rfl, ?_⟩) ?_ ?_; rotate_left
                · intro w'; go_simp; with_reducible rfl
                rotate_left
                · simp only [Act.put, sib_, sc0_, sc1_, i64_w, i32_w]; rfl
                refine take_ (i := 4) (N := some 24) (v := ?_) (a' := ?_) #[t_,t_,t_,t_,t_,t_,t_,t_,t_,t_,f_,f_,f_,f_,f_,f_,f_,f_,f_,f_,f_,f_,f_,f_,f_,f_,f_,f_,f_,f_,f_,f_,f_,f_,f_] rfl rfl (take_ofW HT_.out HW_.out (by kernel_rfl)) (fun _ _ _ h => h) (Or.inl ⟨by rfl, ?_⟩) hHeld ?_ ?_; rotate_left
                · rintro w' ⟨s0, s1, s2, s3, s4, s5, s6, s7, s8, s9, s10, s11⟩
                  go_simp
                  with_reducible rfl
                rotate_left
                · simp only [Act.put, sib_, sc0_, sc1_, i64_w, i32_w]; rfl
                refine take_ (i := 10) (N := some 30) (v := ?_) (a' := ?_) #[t_,t_,t_,t_,t_,t_,t_,t_,t_,t_,t_,f_,f_,f_,f_,f_,f_,f_,f_,f_,f_,f_,f_,f_,f_,f_,f_,f_,f_,f_,f_,f_,f_,f_,f_] rfl rfl (take_ofW HT_.out HW_.out (by kernel_rfl)) (fun _ _ _ h => h) (Or.inl ⟨by rfl, ?_⟩) hHeld ?_ ?_; rotate_left
                · rintro w' ⟨s0, s1, s2, s3, s4, s5, s6, s7, s8, s9, s10, s11⟩
                  go_simp
                  with_reducible rfl
                rotate_left
                · simp only [Act.put, sib_, sc0_, sc1_, i64_w, i32_w]; rfl
                refine pure_ (i := 11) (N := some 31) (v := ?_) (a' := ?_) #[t_,t_,t_,t_,t_,t_,t_,t_,t_,t_,t_,t_,f_,f_,f_,f_,f_,f_,f_,f_,f_,f_,f_,f_,f_,f_,f_,f_,f_,f_,f_,f_,f_,f_,f_] rfl rfl (any_of HT_.out (by kernel_rfl)) (fun _ _ _ h => h) (Or.inl ⟨by rfl, ?_⟩) ?_ ?_; rotate_left
                · intro w'; go_simp; with_reducible rfl
                rotate_left
                · simp only [Act.put, sib_, sc0_, sc1_, i64_w, i32_w]; rfl
                refine pure_ (i := 12) (N := some 32) (v := ?_) (a' := ?_) #[t_,t_,t_,t_,t_,t_,t_,t_,t_,t_,t_,t_,t_,f_,f_,f_,f_,f_,f_,f_,f_,f_,f_,f_,f_,f_,f_,f_,f_,f_,f_,f_,f_,f_,f_] rfl rfl (any_of HT_.out (by kernel_rfl)) (fun _ _ _ h => h) (Or.inl ⟨by rfl, ?_⟩) ?_ ?_; rotate_left
                · intro w'; go_simp; with_reducible rfl
                rotate_left
                · simp only [Act.put, sib_, sc0_, sc1_, i64_w, i32_w]; rfl
                refine pure_ (i := 13) (N := some 33) (v := ?_) (a' := ?_) #[t_,t_,t_,t_,t_,t_,t_,t_,t_,t_,t_,t_,t_,t_,f_,f_,f_,f_,f_,f_,f_,f_,f_,f_,f_,f_,f_,f_,f_,f_,f_,f_,f_,f_,f_] rfl rfl (any_of HT_.out (by kernel_rfl)) (fun _ _ _ h => h) (Or.inl ⟨by rfl, ?_⟩) ?_ ?_; rotate_left
                · intro w'; go_simp; with_reducible rfl
                rotate_left
                · simp only [Act.put, sib_, sc0_, sc1_, i64_w, i32_w]; rfl
                refine pure_ (i := 15) (N := some 35) (v := ?_) (a' := ?_) #[t_,t_,t_,t_,t_,t_,t_,t_,t_,t_,t_,t_,t_,t_,f_,t_,f_,f_,f_,f_,f_,f_,f_,f_,f_,f_,f_,f_,f_,f_,f_,f_,f_,f_,f_] rfl rfl (any_of HT_.out (by kernel_rfl)) (fun _ _ _ h => h) (Or.inl ⟨by rfl, ?_⟩) ?_ ?_; rotate_left
                · intro w'; go_simp; with_reducible rfl
                rotate_left
                · simp only [Act.put, sib_, sc0_, sc1_, i64_w, i32_w]; rfl
                refine pure_ (i := 16) (N := some 36) (v := ?_) (a' := ?_) #[t_,t_,t_,t_,t_,t_,t_,t_,t_,t_,t_,t_,t_,t_,f_,t_,t_,f_,f_,f_,f_,f_,f_,f_,f_,f_,f_,f_,f_,f_,f_,f_,f_,f_,f_] rfl rfl (any_of HT_.out (by kernel_rfl)) (fun _ _ _ h => h) (Or.inl ⟨by rfl, ?_⟩) ?_ ?_; rotate_left
                · intro w'; go_simp; with_reducible rfl
                rotate_left
                · simp only [Act.put, sib_, sc0_, sc1_, i64_w, i32_w]; rfl
                refine pure_ (i := 17) (N := some 37) (v := ?_) (a' := ?_) #[t_,t_,t_,t_,t_,t_,t_,t_,t_,t_,t_,t_,t_,t_,f_,t_,t_,t_,f_,f_,f_,f_,f_,f_,f_,f_,f_,f_,f_,f_,f_,f_,f_,f_,f_] rfl rfl (any_of HT_.out (by kernel_rfl)) (fun _ _ _ h => h) (Or.inl ⟨by rfl, ?_⟩) ?_ ?_; rotate_left
                · intro w'; go_simp; with_reducible rfl
                rotate_left
                · simp only [Act.put, sib_, sc0_, sc1_, i64_w, i32_w]; rfl
                refine pure_ (i := 18) (N := some 38) (v := ?_) (a' := ?_) #[t_,t_,t_,t_,t_,t_,t_,t_,t_,t_,t_,t_,t_,t_,f_,t_,t_,t_,t_,f_,f_,f_,f_,f_,f_,f_,f_,f_,f_,f_,f_,f_,f_,f_,f_] rfl rfl (any_of HT_.out (by kernel_rfl)) (fun _ _ _ h => h) (Or.inl ⟨by rfl, ?_⟩) ?_ ?_; rotate_left
                · intro w'; go_simp; with_reducible rfl
                rotate_left
                · simp only [Act.put, sib_, sc0_, sc1_, i64_w, i32_w]; rfl
                refine pure_ (i := 19) (N := some 39) (v := ?_) (a' := ?_) #[t_,t_,t_,t_,t_,t_,t_,t_,t_,t_,t_,t_,t_,t_,f_,t_,t_,t_,t_,t_,f_,f_,f_,f_,f_,f_,f_,f_,f_,f_,f_,f_,f_,f_,f_] rfl rfl (any_of HT_.out (by kernel_rfl)) (fun _ _ _ h => h) (Or.inl ⟨by rfl, ?_⟩) ?_ ?_; rotate_left
                · intro w'; go_simp; with_reducible rfl
                rotate_left
                · simp only [Act.put, sib_, sc0_, sc1_, i64_w, i32_w]; rfl
                refine take_ (i := 14) (N := some 34) (v := ?_) (a' := ?_) #[t_,t_,t_,t_,t_,t_,t_,t_,t_,t_,t_,t_,t_,t_,t_,t_,t_,t_,t_,t_,f_,f_,f_,f_,f_,f_,f_,f_,f_,f_,f_,f_,f_,f_,f_] rfl rfl (take_ofW HT_.out HW_.out (by kernel_rfl)) (fun _ _ _ h => h) (Or.inl ⟨by rfl, ?_⟩) hHeld ?_ ?_; rotate_left
                · rintro w' ⟨s0, s1, s2, s3, s4, s5, s6, s7, s8, s9, s10, s11⟩
                  go_simp
                  with_reducible rfl
                rotate_left
                · simp only [Act.put, sib_, sc0_, sc1_, i64_w, i32_w]; rfl
                refine take_ (i := 20) (N := some 40) (v := ?_) (a' := ?_) #[t_,t_,t_,t_,t_,t_,t_,t_,t_,t_,t_,t_,t_,t_,t_,t_,t_,t_,t_,t_,t_,f_,f_,f_,f_,f_,f_,f_,f_,f_,f_,f_,f_,f_,f_] rfl rfl (take_ofW HT_.out HW_.out (by kernel_rfl)) (fun _ _ _ h => h) (Or.inl ⟨by rfl, ?_⟩) hHeld ?_ ?_; rotate_left
                · rintro w' ⟨s0, s1, s2, s3, s4, s5, s6, s7, s8, s9, s10, s11⟩
                  go_simp
                  with_reducible rfl
                rotate_left
                · simp only [Act.put, sib_, sc0_, sc1_, i64_w, i32_w]; rfl
                refine pure_ (i := 21) (N := some 41) (v := ?_) (a' := ?_) #[t_,t_,t_,t_,t_,t_,t_,t_,t_,t_,t_,t_,t_,t_,t_,t_,t_,t_,t_,t_,t_,t_,f_,f_,f_,f_,f_,f_,f_,f_,f_,f_,f_,f_,f_] rfl rfl (any_of HT_.out (by kernel_rfl)) (fun _ _ _ h => h) (Or.inl ⟨by rfl, ?_⟩) ?_ ?_; rotate_left
                · intro w'; go_simp; with_reducible rfl
                rotate_left
                · simp only [Act.put, sib_, sc0_, sc1_, i64_w, i32_w]; rfl
                refine pure_ (i := 22) (N := some 42) (v := ?_) (a' := ?_) #[t_,t_,t_,t_,t_,t_,t_,t_,t_,t_,t_,t_,t_,t_,t_,t_,t_,t_,t_,t_,t_,t_,t_,f_,f_,f_,f_,f_,f_,f_,f_,f_,f_,f_,f_] rfl rfl (any_of HT_.out (by kernel_rfl)) (fun _ _ _ h => h) (Or.inl ⟨by rfl, ?_⟩) ?_ ?_; rotate_left
                · intro w'; go_simp; with_reducible rfl
                rotate_left
                · simp only [Act.put, sib_, sc0_, sc1_, i64_w, i32_w]; rfl
                refine pure_ (i := 23) (N := some 43) (v := ?_) (a' := ?_) #[t_,t_,t_,t_,t_,t_,t_,t_,t_,t_,t_,t_,t_,t_,t_,t_,t_,t_,t_,t_,t_,t_,t_,t_,f_,f_,f_,f_,f_,f_,f_,f_,f_,f_,f_] rfl rfl (any_of HT_.out (by kernel_rfl)) (fun _ _ _ h => h) (Or.inl ⟨by rfl, ?_⟩) ?_ ?_; rotate_left
                · intro w'; go_simp; with_reducible rfl
                rotate_left
                · simp only [Act.put, sib_, sc0_, sc1_, i64_w, i32_w]; rfl
                refine pure_ (i := 25) (N := some 45) (v := ?_) (a' := ?_) #[t_,t_,t_,t_,t_,t_,t_,t_,t_,t_,t_,t_,t_,t_,t_,t_,t_,t_,t_,t_,t_,t_,t_,t_,f_,t_,f_,f_,f_,f_,f_,f_,f_,f_,f_] rfl rfl (any_of HT_.out (by kernel_rfl)) (fun _ _ _ h => h) (Or.inl ⟨by rfl, ?_⟩) ?_ ?_; rotate_left
                · intro w'; go_simp; with_reducible rfl
                rotate_left
                · simp only [Act.put, sib_, sc0_, sc1_, i64_w, i32_w]; rfl
                refine pure_ (i := 26) (N := some 46) (v := ?_) (a' := ?_) #[t_,t_,t_,t_,t_,t_,t_,t_,t_,t_,t_,t_,t_,t_,t_,t_,t_,t_,t_,t_,t_,t_,t_,t_,f_,t_,t_,f_,f_,f_,f_,f_,f_,f_,f_] rfl rfl (any_of HT_.out (by kernel_rfl)) (fun _ _ _ h => h) (Or.inl ⟨by rfl, ?_⟩) ?_ ?_; rotate_left
                · intro w'; go_simp; with_reducible rfl
                rotate_left
                · simp only [Act.put, sib_, sc0_, sc1_, i64_w, i32_w]; rfl
                refine pure_ (i := 27) (N := some 47) (v := ?_) (a' := ?_) #[t_,t_,t_,t_,t_,t_,t_,t_,t_,t_,t_,t_,t_,t_,t_,t_,t_,t_,t_,t_,t_,t_,t_,t_,f_,t_,t_,t_,f_,f_,f_,f_,f_,f_,f_] rfl rfl (any_of HT_.out (by kernel_rfl)) (fun _ _ _ h => h) (Or.inl ⟨by rfl, ?_⟩) ?_ ?_; rotate_left
                · intro w'; go_simp; with_reducible rfl
                rotate_left
                · simp only [Act.put, sib_, sc0_, sc1_, i64_w, i32_w]; rfl
                refine pure_ (i := 28) (N := some 48) (v := ?_) (a' := ?_) #[t_,t_,t_,t_,t_,t_,t_,t_,t_,t_,t_,t_,t_,t_,t_,t_,t_,t_,t_,t_,t_,t_,t_,t_,f_,t_,t_,t_,t_,f_,f_,f_,f_,f_,f_] rfl rfl (any_of HT_.out (by kernel_rfl)) (fun _ _ _ h => h) (Or.inl ⟨by rfl, ?_⟩) ?_ ?_; rotate_left
                · intro w'; go_simp; with_reducible rfl
                rotate_left
                · simp only [Act.put, sib_, sc0_, sc1_, i64_w, i32_w]; rfl
                refine pure_ (i := 29) (N := some 49) (v := ?_) (a' := ?_) #[t_,t_,t_,t_,t_,t_,t_,t_,t_,t_,t_,t_,t_,t_,t_,t_,t_,t_,t_,t_,t_,t_,t_,t_,f_,t_,t_,t_,t_,t_,f_,f_,f_,f_,f_] rfl rfl (any_of HT_.out (by kernel_rfl)) (fun _ _ _ h => h) (Or.inl ⟨by rfl, ?_⟩) ?_ ?_; rotate_left
                · intro w'; go_simp; with_reducible rfl
                rotate_left
                · simp only [Act.put, sib_, sc0_, sc1_, i64_w, i32_w]; rfl
                refine take_ (i := 24) (N := some 44) (v := ?_) (a' := ?_) #[t_,t_,t_,t_,t_,t_,t_,t_,t_,t_,t_,t_,t_,t_,t_,t_,t_,t_,t_,t_,t_,t_,t_,t_,t_,t_,t_,t_,t_,t_,f_,f_,f_,f_,f_] rfl rfl (take_ofW HT_.out HW_.out (by kernel_rfl)) (fun _ _ _ h => h) (Or.inl ⟨by rfl, ?_⟩) hHeld ?_ ?_; rotate_left
                · rintro w' ⟨s0, s1, s2, s3, s4, s5, s6, s7, s8, s9, s10, s11⟩
                  go_simp
                  with_reducible rfl
                rotate_left
                · simp only [Act.put, sib_, sc0_, sc1_, i64_w, i32_w]; rfl
                refine take_ (i := 30) (N := some 50) (v := ?_) (a' := ?_) #[t_,t_,t_,t_,t_,t_,t_,t_,t_,t_,t_,t_,t_,t_,t_,t_,t_,t_,t_,t_,t_,t_,t_,t_,t_,t_,t_,t_,t_,t_,t_,f_,f_,f_,f_] rfl rfl (take_ofW HT_.out HW_.out (by kernel_rfl)) (fun _ _ _ h => h) (Or.inl ⟨by rfl, ?_⟩) hHeld ?_ ?_; rotate_left
                · rintro w' ⟨s0, s1, s2, s3, s4, s5, s6, s7, s8, s9, s10, s11⟩
                  go_simp
                  with_reducible rfl
                rotate_left
                · simp only [Act.put, sib_, sc0_, sc1_, i64_w, i32_w]; rfl
                refine pure_ (i := 31) (N := some 51) (v := ?_) (a' := ?_) #[t_,t_,t_,t_,t_,t_,t_,t_,t_,t_,t_,t_,t_,t_,t_,t_,t_,t_,t_,t_,t_,t_,t_,t_,t_,t_,t_,t_,t_,t_,t_,t_,f_,f_,f_] rfl rfl (any_of HT_.out (by kernel_rfl)) (fun _ _ _ h => h) (Or.inl ⟨by rfl, ?_⟩) ?_ ?_; rotate_left
                · intro w'; go_simp; with_reducible rfl
                rotate_left
                · simp only [Act.put, sib_, sc0_, sc1_, i64_w, i32_w]; rfl
                refine pure_ (i := 32) (N := some 52) (v := ?_) (a' := ?_) #[t_,t_,t_,t_,t_,t_,t_,t_,t_,t_,t_,t_,t_,t_,t_,t_,t_,t_,t_,t_,t_,t_,t_,t_,t_,t_,t_,t_,t_,t_,t_,t_,t_,f_,f_] rfl rfl (any_of HT_.out (by kernel_rfl)) (fun _ _ _ h => h) (Or.inl ⟨by rfl, ?_⟩) ?_ ?_; rotate_left
                · intro w'; go_simp; with_reducible rfl
                rotate_left
                · simp only [Act.put, sib_, sc0_, sc1_, i64_w, i32_w]; rfl
                refine pure_ (i := 33) (N := some 53) (v := ?_) (a' := ?_) #[t_,t_,t_,t_,t_,t_,t_,t_,t_,t_,t_,t_,t_,t_,t_,t_,t_,t_,t_,t_,t_,t_,t_,t_,t_,t_,t_,t_,t_,t_,t_,t_,t_,t_,f_] rfl rfl (any_of HT_.out (by kernel_rfl)) (fun _ _ _ h => h) (Or.inl ⟨by rfl, ?_⟩) ?_ ?_; rotate_left
                · intro w'; go_simp; with_reducible rfl
                rotate_left
                · simp only [Act.put, sib_, sc0_, sc1_, i64_w, i32_w]; rfl
                refine pure_ (i := 34) (N := some 54) (v := ?_) (a' := ?_) #[t_,t_,t_,t_,t_,t_,t_,t_,t_,t_,t_,t_,t_,t_,t_,t_,t_,t_,t_,t_,t_,t_,t_,t_,t_,t_,t_,t_,t_,t_,t_,t_,t_,t_,t_] rfl rfl (any_of HT_.out (by kernel_rfl)) (fun _ _ _ h => h) (Or.inl ⟨by rfl, ?_⟩) ?_ ?_; rotate_left
                · intro w'; go_simp; with_reducible rfl
                rotate_left
                · simp only [Act.put, sib_, sc0_, sc1_, i64_w, i32_w]; rfl
                refine done_ (done_of HT_.out (by kernel_rfl)) ?_
                try go_wp2
                replace HO_3 := As_ (Kd.R_drew HO_3.out)
                replace BK126 := As_ (blk_drew BK126.out)
                replace BK128 := As_ (blk_drew BK128.out)
                replace HB := As_ (below_drew1 HB.out)
                have q29 : (x6_2 : Int) ≤ ((x3_1.length : Int) : Int) := of_decide_eq_true (by first | (with_reducible assumption) | assumption)
                obtain ⟨i029, hi029, _, hsz29, _⟩ := info_parts info87
                have hroom29 : x3_1.length ≤ co10 := (Kd.R_reads' HO_3.out).2.1
                have hC29 : Kd.C k87 _ (some ad129) x3_1.length x3_1 := (Kd.R_reads' HO_3.out).2.2
                have hcut29 := cut_to (P := Try.prog) 29 87 .i64 Try.underlying29 hi029 (some ad129) x3_1.length co10 x6_2 (of_decide_eq_true (by first | (with_reducible assumption) | assumption)) q29 hroom29
                have hr29 := Kd.C_take (m := (x6_2 : Int).toNat) hC29 (by omega)
                have hy29 : y135.length = (x6_2 : Int).toNat := (by rw [Ny135.out, List.length_take]; omega)
                rw [← Ny135.out] at hr29
                rw [← hy29] at hcut29
                have HR138 := As_ hr29
                have HC138 := As_ (show y135.length ≤ co10 from by omega)
                clear hr29 hC29 hroom29 hi029 hsz29
                have KY29 := As_ hy29
                clear hy29
                have KL29 := As_ (show (x6_2 : Int).toNat ≤ x3_1.length from by omega)
                replace q29 := eq_true q29
                refine start_ (n := 9) (S := fun w' => w'.cell? ⟨gb128, 0, none⟩ = some (.int .i64 ((rd_T87 l0_2 x14_1).f0)) ∧ w'.cell? ⟨gb128, 1, none⟩ = some (.int .i64 ((rd_T87 l0_2 x14_1).f1)) ∧ w'.cell? ⟨gb128, 2, none⟩ = some (.int .i64 ((rd_T87 l0_2 x14_1).f2))) (ds := []) #[f_,f_,f_,f_,f_,f_,f_,f_,f_] (by kernel_rfl) rfl rfl ⟨(blk_cell BK128.out 0).trans rfl, (blk_cell BK128.out 1).trans rfl, (blk_cell BK128.out 2).trans rfl⟩ (fun hHeld => ?_); refine with_tabW spec_stSides.tab8 spec_stSides.bits8 (fun HT_ HW_ => ?_)
                generalize w27.drew = w28 at HO_3 BK126 BK128 HB HR138 hHeld ⊢
                refine pure_ (i := 1) (N := some 58) (v := ?_) (a' := ?_) #[f_,t_,f_,f_,f_,f_,f_,f_,f_] rfl rfl (any_of HT_.out (by kernel_rfl)) (fun _ _ _ h => h) (Or.inl ⟨by rfl, ?_⟩) ?_ ?_; rotate_left
                · intro w'; go_simp; with_reducible rfl
                rotate_left
                · simp only [Act.put, sib_, sc0_, sc1_, i64_w, i32_w]; rfl
                refine pure_ (i := 2) (N := some 59) (v := ?_) (a' := ?_) #[f_,t_,t_,f_,f_,f_,f_,f_,f_] rfl rfl (any_of HT_.out (by kernel_rfl)) (fun _ _ _ h => h) (Or.inl ⟨by rfl, ?_⟩) ?_ ?_; rotate_left
                · intro w'; go_simp; with_reducible rfl
                rotate_left
                · simp only [Act.put, sib_, sc0_, sc1_, i64_w, i32_w]; rfl
                refine pure_ (i := 3) (N := some 60) (v := ?_) (a' := ?_) #[f_,t_,t_,t_,f_,f_,f_,f_,f_] rfl rfl (any_of HT_.out (by kernel_rfl)) (fun _ _ _ h => h) (Or.inl ⟨by rfl, ?_⟩) ?_ ?_; rotate_left
                · intro w'; go_simp; with_reducible rfl
                rotate_left
                · simp only [Act.put, sib_, sc0_, sc1_, i64_w, i32_w]; rfl
                refine take_ (i := 5) (N := some 62) (v := ?_) (a' := ?_) #[f_,t_,t_,t_,f_,t_,f_,f_,f_] rfl rfl (take_ofW HT_.out HW_.out (by kernel_rfl)) (fun _ _ _ h => h) (Or.inl ⟨by rfl, ?_⟩) hHeld ?_ ?_; rotate_left
                · rintro w' ⟨s0, s1, s2⟩
                  go_simp
                  with_reducible rfl
                rotate_left
                · simp only [Act.put, sib_, sc0_, sc1_, i64_w, i32_w]; rfl
                refine join_ (σ := Value × Value × Value) 2 #[t_,t_,t_,t_,t_,t_,t_,f_,f_] (fun s_ => [(57, s_.1), (61, s_.2.1), (63, s_.2.2)]) (fun s_ w' => (w'.cell? ⟨gb128, 0, none⟩ = some (.int .i64 ((rd_T87 l0_2 x14_1).f0)) ∧ w'.cell? ⟨gb128, 1, none⟩ = some (.int .i64 ((rd_T87 l0_2 x14_1).f1)) ∧ w'.cell? ⟨gb128, 2, none⟩ = some (.int .i64 ((rd_T87 l0_2 x14_1).f2))) ∧ (Kd.R k87 87 w' w.heap.size (fun k_ => some k_ ≠ (s_.2.2 : Value).ownBlock ∧ some k_ ≠ (.slice (some ad129) x3_1.length co10 : Value).ownBlock ∧ k_ ≠ gb128) s_.2.1 y139) ∧ (Kd.R k87 87 w' w.heap.size (fun k_ => some k_ ≠ (s_.2.1 : Value).ownBlock ∧ some k_ ≠ (.slice (some ad129) x3_1.length co10 : Value).ownBlock ∧ k_ ≠ gb128) s_.2.2 y142) ∧ (Kd.R k87 87 w' w.heap.size (fun k_ => some k_ ≠ (s_.2.1 : Value).ownBlock ∧ some k_ ≠ (s_.2.2 : Value).ownBlock ∧ k_ ≠ gb128) (.slice (some ad129) x3_1.length co10) x3_1) ∧ (w'.heap[gb126]? = some (.cells #[.int .i64 a0_0, .int .i64 a0_1, .slice (some ad127) l0_2.length c0_2] 31 (0, 0))) ∧ (w'.heap[gb128]? = some (.cells #[.int .i64 ((rd_T87 l0_2 x14_1).f0), .int .i64 ((rd_T87 l0_2 x14_1).f1), .int .i64 ((rd_T87 l0_2 x14_1).f2)] 87 (0, 0))) ∧ (Below w.heap.size w w')) ?_ ?_; rotate_left
                · intro hCont
                  refine two_ (i := 0) (j := 6) (Ni := some 57) (Nj := some 63) #[t_,t_,t_,t_,f_,t_,f_,f_,f_] #[f_,t_,t_,t_,f_,t_,t_,f_,f_] rfl rfl rfl rfl (two_of HT_.out (by kernel_rfl)) (by decide) (by decide) (fun K hK => ?_) (fun K hK => ?_)
                  · skip
                    refine Kd.R_lit_step k87 _ 87 ?hg (N := 57) ?hd (xs := ([] : List (S87))) (inner := []) (ok := fun _ => True) (okp := fun _ => True) ?hr ?hp (fun _ hk => hk) trivial (Below.refl _ _) (Nat.le_refl _) (by simp) ?_; (case hd => rfl); (case hg => rfl); (case hr => first | (go_simp; done) | (go_simp; rfl)); (case hp => exact (Reps.none _ _))
                    intro v133 w30 ho31 hb hg_ hnew_; clear hg_ hnew_
                    (first | rw [← Ny132.out] at ho31 | (simp only [Int.reduceToNat] at ho31; rw [← Ny132.out] at ho31))
                    have HO134 := As_ (Kd.R_lower (Kd.R_newB (Kd.R_new' ho31 (Kd.R_lt (by (with_reducible repeat (first | apply Kd.R_alloc | apply Kd.R_drewN | apply Kd.R_drew)); exact HO_3.out))) (g := gb128) (o := .cells #[.int .i64 ((rd_T87 l0_2 x14_1).f0), .int .i64 ((rd_T87 l0_2 x14_1).f1), .int .i64 ((rd_T87 l0_2 x14_1).f2)] 87 (0, 0)) BK128.out) (below_size (by repeat (first | (with_reducible first | exact HB.out | apply below_alloc | apply pw_below_drewN | apply below_drew1 | refine below_setA ?_ (by assumption)) | exact HB.out))))
                    replace HO_3 := As_ (Kd.R_elder' (by (with_reducible repeat (first | apply Kd.R_alloc | apply Kd.R_drewN | apply Kd.R_drew)); exact HO_3.out) (Kd.R_base ho31) hb)
                    replace BK126 := As_ (blk_b hb BK126.out)
                    replace BK128 := As_ (blk_b hb BK128.out)
                    replace HR138 := As_ (Kd.C_below (by repeat (first | (with_reducible exact HR138.out) | (with_reducible refine Kd.C_alloc ?_ _) | (with_reducible refine Kd.C_drewN ?_ _) | (with_reducible refine Kd.C_drew ?_) | exact HR138.out)) hb)
                    replace HB := As_ (below_step (by repeat (first | (with_reducible first | exact HB.out | apply below_alloc | apply pw_below_drewN | apply below_drew1 | refine below_setA ?_ (by assumption)) | exact HB.out)) hb); clear hb ho31
                    refine hK.out _ _ ⟨(blk_cell BK128.out 0).trans rfl, (blk_cell BK128.out 1).trans rfl, (blk_cell BK128.out 2).trans rfl⟩ (fun hHeld => ?_); clear hK K
                    refine norm_ (a' := ?_) ?_ ?_; rotate_left
                    · show Act.put _ (some 57) _ = _
                      simp only [Act.put, sib_, sc0_, sc1_, i64_w, i32_w]
                      rfl
                    refine two_ (i := 4) (j := 6) (Ni := some 61) (Nj := some 63) #[t_,t_,t_,t_,t_,t_,f_,f_,f_] #[t_,t_,t_,t_,f_,t_,t_,f_,f_] rfl rfl rfl rfl (two_of HT_.out (by kernel_rfl)) (by decide) (by decide) (fun K hK => ?_) (fun K hK => ?_)
                    · skip
                      refine Kd.R_append_rows_step k87 (w0 := w) w.heap.size (by rfl) (.tmp 57) (.tmp 60) 29 87 (.agg #[(.int .i64 0), (.int .i64 0), (.int .i64 0)]) 24 rfl Try.underlying29 info87 rfl (by decide) (by omega) v133 y132 y135 _ _ _ (fun k_ => some k_ ≠ (.slice (some ad129) x3_1.length co10 : Value).ownBlock ∧ k_ ≠ gb128) (fun _ => False) rfl rfl ?aO ?aR (fun _ _ h => h) (fun _ h => h.elim) ?aF ?aB ?aS ?aL ?_
                      (case aR => repeat (first | exact (by repeat (first | (with_reducible exact HR138.out) | (with_reducible refine Kd.C_alloc ?_ _) | (with_reducible refine Kd.C_drewN ?_ _) | (with_reducible refine Kd.C_drew ?_) | exact HR138.out)) | (with_reducible refine Kd.C_alloc ?_ _) | (with_reducible refine Kd.C_drewN ?_ _) | (with_reducible refine Kd.C_drew ?_)))
                      (case aB => exact (by repeat (first | (with_reducible first | exact HB.out | apply below_alloc | apply pw_below_drewN | apply below_drew1 | refine below_setA ?_ (by assumption)) | exact HB.out)))
                      (case aF => exact (fun k_ hk => ⟨Kd.fresh' (Kd.R_lt (by (with_reducible repeat (first | apply Kd.R_alloc | apply Kd.R_drewN | apply Kd.R_drew)); exact HO_3.out)) k_ hk, Kd.freshB (g := gb128) (o := .cells #[.int .i64 ((rd_T87 l0_2 x14_1).f0), .int .i64 ((rd_T87 l0_2 x14_1).f1), .int .i64 ((rd_T87 l0_2 x14_1).f2)] 87 (0, 0)) BK128.out k_ hk⟩))
                      (case aO => exact (by (with_reducible repeat (first | apply Kd.R_alloc | apply Kd.R_drewN | apply Kd.R_drew)); exact Kd.R_mono HO134.out (fun _ hk => ⟨hk.1.2, hk.2⟩)))
                      (case aS => exact (below_size (by repeat (first | (with_reducible first | exact HB.out | apply below_alloc | apply pw_below_drewN | apply below_drew1 | refine below_setA ?_ (by assumption)) | exact HB.out))))
                      (case aL => have := LMc22.out; omega)
                      intro v140 w32 ho hb hg hat
                      rw [← Ny139.out] at ho
                      have n0_ := As_ (Kd.R_after (ok := (fun k_ => k_ ≠ gb128)) (by (with_reducible repeat (first | apply Kd.R_alloc | apply Kd.R_drewN | apply Kd.R_drew)); exact HO_3.out) hg hat)
                      have n1_ := As_ (blk_grown (g := gb126) (o := .cells #[.int .i64 a0_0, .int .i64 a0_1, .slice (some ad127) l0_2.length c0_2] 31 (0, 0)) BK126.out hg (Kd.R_ne HO134.out BK126.out (by decide)))
                      have n2_ := As_ (blk_grown (g := gb128) (o := .cells #[.int .i64 ((rd_T87 l0_2 x14_1).f0), .int .i64 ((rd_T87 l0_2 x14_1).f1), .int .i64 ((rd_T87 l0_2 x14_1).f2)] 87 (0, 0)) BK128.out hg (Kd.R_away HO134.out (fun _ hk => hk.2)))
                      have n3_ := As_ (hb)
                      have n4_ := As_ ((show Kd.C k87 w32 (some ad129) y135.length y135 from by rw [Ny135.out]; exact Kd.C_take (m := (x6_2 : Int).toNat) ((Kd.R_reads' (Kd.R_after (ok := (fun k_ => k_ ≠ gb128)) (by (with_reducible repeat (first | apply Kd.R_alloc | apply Kd.R_drewN | apply Kd.R_drew)); exact HO_3.out) hg hat)).2.2) KL29.out))
                      have n5_ := As_ (ho)
                      clear HO_3; clear BK126; clear BK128; clear HB; clear HR138; clear HO134
                      have HO_3 := n0_
                      have BK126 := n1_
                      have BK128 := n2_
                      have HB := n3_
                      have HR138 := n4_
                      have HO141 := n5_
                      clear n0_ n1_ n2_ n3_ n4_ n5_; clear ho hb hg hat
                      refine hK.out _ _ ⟨(blk_cell BK128.out 0).trans rfl, (blk_cell BK128.out 1).trans rfl, (blk_cell BK128.out 2).trans rfl⟩ (fun hHeld => ?_); clear hK K
                      refine norm_ (a' := ?_) ?_ ?_; rotate_left
                      · show Act.put _ (some 61) _ = _
                        simp only [Act.put, sib_, sc0_, sc1_, i64_w, i32_w]
                        rfl
                      refine one_ (i := 6) (N := some 63) #[t_,t_,t_,t_,t_,t_,t_,f_,f_] rfl rfl (one_of HT_.out (by kernel_rfl)) (by decide) (fun K hK => ?_)
                      refine Kd.R_lit_step k87 _ 87 ?hg (N := 63) ?hd (xs := ([(⟨((rd_T87 l0_2 x14_1).f0), ((rd_T87 l0_2 x14_1).f1), ((rd_T87 l0_2 x14_1).f2)⟩ : S87)] : List (S87))) (inner := [.int .i64 ((rd_T87 l0_2 x14_1).f0), .int .i64 ((rd_T87 l0_2 x14_1).f1), .int .i64 ((rd_T87 l0_2 x14_1).f2)]) (ok := fun _ => True) (okp := fun _ => True) ?hr ?hp (fun _ hk => hk) trivial (Below.refl _ _) (Nat.le_refl _) (by simp) ?_; (case hd => rfl); (case hg => rfl); (case hr => first | (go_simp; done) | (go_simp; rfl)); (case hp => exact (Reps.c3 (show Kd.M k87 _ _ _ (⟨((rd_T87 l0_2 x14_1).f0), ((rd_T87 l0_2 x14_1).f1), ((rd_T87 l0_2 x14_1).f2)⟩ : S87) [.int .i64 ((rd_T87 l0_2 x14_1).f0), .int .i64 ((rd_T87 l0_2 x14_1).f1), .int .i64 ((rd_T87 l0_2 x14_1).f2)] from (k87_mkM _ _ _ (⟨((rd_T87 l0_2 x14_1).f0), ((rd_T87 l0_2 x14_1).f1), ((rd_T87 l0_2 x14_1).f2)⟩ : S87) )) (Reps.none _ _)))
                      intro v143 w33 ho34 hb hg_ hnew_; clear hg_ hnew_
                      (first | rw [← Ny142.out] at ho34 | (simp only [Int.reduceToNat] at ho34; rw [← Ny142.out] at ho34))
                      have HO144 := As_ (Kd.R_lower (Kd.R_newB (Kd.R_new' (Kd.R_new' ho34 (Kd.R_lt (by (with_reducible repeat (first | apply Kd.R_alloc | apply Kd.R_drewN | apply Kd.R_drew)); exact HO_3.out))) (Kd.R_lt (by (with_reducible repeat (first | apply Kd.R_alloc | apply Kd.R_drewN | apply Kd.R_drew)); exact HO141.out))) (g := gb128) (o := .cells #[.int .i64 ((rd_T87 l0_2 x14_1).f0), .int .i64 ((rd_T87 l0_2 x14_1).f1), .int .i64 ((rd_T87 l0_2 x14_1).f2)] 87 (0, 0)) BK128.out) (below_size (by repeat (first | (with_reducible first | exact HB.out | apply below_alloc | apply pw_below_drewN | apply below_drew1 | refine below_setA ?_ (by assumption)) | exact HB.out))))
                      replace HO_3 := As_ (Kd.R_elder' (by (with_reducible repeat (first | apply Kd.R_alloc | apply Kd.R_drewN | apply Kd.R_drew)); exact HO_3.out) (Kd.R_base ho34) hb)
                      replace HO141 := As_ (Kd.R_elder' (by (with_reducible repeat (first | apply Kd.R_alloc | apply Kd.R_drewN | apply Kd.R_drew)); exact HO141.out) (Kd.R_base ho34) hb)
                      replace BK126 := As_ (blk_b hb BK126.out)
                      replace BK128 := As_ (blk_b hb BK128.out)
                      replace HR138 := As_ (Kd.C_below (by repeat (first | (with_reducible exact HR138.out) | (with_reducible refine Kd.C_alloc ?_ _) | (with_reducible refine Kd.C_drewN ?_ _) | (with_reducible refine Kd.C_drew ?_) | exact HR138.out)) hb)
                      replace HB := As_ (below_step (by repeat (first | (with_reducible first | exact HB.out | apply below_alloc | apply pw_below_drewN | apply below_drew1 | refine below_setA ?_ (by assumption)) | exact HB.out)) hb); clear hb ho34
                      refine hK.out _ _ ⟨(blk_cell BK128.out 0).trans rfl, (blk_cell BK128.out 1).trans rfl, (blk_cell BK128.out 2).trans rfl⟩ (fun hHeld => ?_); clear hK K
                      refine norm_ (a' := ?_) ?_ ?_; rotate_left
                      · show Act.put _ (some 63) _ = _
                        simp only [Act.put, sib_, sc0_, sc1_, i64_w, i32_w]
                        rfl
                      exact norm_ (by simp only [putAll, Act.put, sib_, sc0_, sc1_]) (hCont (v133, v140, v143) _ ⟨hHeld, (by (with_reducible repeat (first | apply Kd.R_alloc | apply Kd.R_drewN | apply Kd.R_drew)); exact Kd.R_mono HO141.out (fun _ hk => ⟨hk.2, ⟨hk.1.1, hk.1.2⟩⟩)), (by (with_reducible repeat (first | apply Kd.R_alloc | apply Kd.R_drewN | apply Kd.R_drew)); exact Kd.R_mono HO144.out (fun _ hk => ⟨hk.1.2, ⟨hk.1.1.2, hk.2⟩⟩)), (by (with_reducible repeat (first | apply Kd.R_alloc | apply Kd.R_drewN | apply Kd.R_drew)); exact Kd.R_mono HO_3.out (fun _ hk => ⟨hk.1.2, ⟨hk.2, hk.1.1⟩⟩)), BK126.out, BK128.out, (by repeat (first | (with_reducible first | exact HB.out | apply below_alloc | apply pw_below_drewN | apply below_drew1 | refine below_setA ?_ (by assumption)) | exact HB.out))⟩)
                    · skip
                      refine Kd.R_lit_step k87 _ 87 ?hg (N := 63) ?hd (xs := ([(⟨((rd_T87 l0_2 x14_1).f0), ((rd_T87 l0_2 x14_1).f1), ((rd_T87 l0_2 x14_1).f2)⟩ : S87)] : List (S87))) (inner := [.int .i64 ((rd_T87 l0_2 x14_1).f0), .int .i64 ((rd_T87 l0_2 x14_1).f1), .int .i64 ((rd_T87 l0_2 x14_1).f2)]) (ok := fun _ => True) (okp := fun _ => True) ?hr ?hp (fun _ hk => hk) trivial (Below.refl _ _) (Nat.le_refl _) (by simp) ?_; (case hd => rfl); (case hg => rfl); (case hr => first | (go_simp; done) | (go_simp; rfl)); (case hp => exact (Reps.c3 (show Kd.M k87 _ _ _ (⟨((rd_T87 l0_2 x14_1).f0), ((rd_T87 l0_2 x14_1).f1), ((rd_T87 l0_2 x14_1).f2)⟩ : S87) [.int .i64 ((rd_T87 l0_2 x14_1).f0), .int .i64 ((rd_T87 l0_2 x14_1).f1), .int .i64 ((rd_T87 l0_2 x14_1).f2)] from (k87_mkM _ _ _ (⟨((rd_T87 l0_2 x14_1).f0), ((rd_T87 l0_2 x14_1).f1), ((rd_T87 l0_2 x14_1).f2)⟩ : S87) )) (Reps.none _ _)))
                      intro v143 w32 ho33 hb hg_ hnew_; clear hg_ hnew_
                      (first | rw [← Ny142.out] at ho33 | (simp only [Int.reduceToNat] at ho33; rw [← Ny142.out] at ho33))
                      have HO144 := As_ (Kd.R_lower (Kd.R_newB (Kd.R_new' (Kd.R_new' ho33 (Kd.R_lt (by (with_reducible repeat (first | apply Kd.R_alloc | apply Kd.R_drewN | apply Kd.R_drew)); exact HO_3.out))) (Kd.R_lt (by (with_reducible repeat (first | apply Kd.R_alloc | apply Kd.R_drewN | apply Kd.R_drew)); exact HO134.out))) (g := gb128) (o := .cells #[.int .i64 ((rd_T87 l0_2 x14_1).f0), .int .i64 ((rd_T87 l0_2 x14_1).f1), .int .i64 ((rd_T87 l0_2 x14_1).f2)] 87 (0, 0)) BK128.out) (below_size (by repeat (first | (with_reducible first | exact HB.out | apply below_alloc | apply pw_below_drewN | apply below_drew1 | refine below_setA ?_ (by assumption)) | exact HB.out))))
                      replace HO_3 := As_ (Kd.R_elder' (by (with_reducible repeat (first | apply Kd.R_alloc | apply Kd.R_drewN | apply Kd.R_drew)); exact HO_3.out) (Kd.R_base ho33) hb)
                      replace HO134 := As_ (Kd.R_elder' (by (with_reducible repeat (first | apply Kd.R_alloc | apply Kd.R_drewN | apply Kd.R_drew)); exact HO134.out) (Kd.R_base ho33) hb)
                      replace BK126 := As_ (blk_b hb BK126.out)
                      replace BK128 := As_ (blk_b hb BK128.out)
                      replace HR138 := As_ (Kd.C_below (by repeat (first | (with_reducible exact HR138.out) | (with_reducible refine Kd.C_alloc ?_ _) | (with_reducible refine Kd.C_drewN ?_ _) | (with_reducible refine Kd.C_drew ?_) | exact HR138.out)) hb)
                      replace HB := As_ (below_step (by repeat (first | (with_reducible first | exact HB.out | apply below_alloc | apply pw_below_drewN | apply below_drew1 | refine below_setA ?_ (by assumption)) | exact HB.out)) hb); clear hb ho33
                      refine hK.out _ _ ⟨(blk_cell BK128.out 0).trans rfl, (blk_cell BK128.out 1).trans rfl, (blk_cell BK128.out 2).trans rfl⟩ (fun hHeld => ?_); clear hK K
                      refine norm_ (a' := ?_) ?_ ?_; rotate_left
                      · show Act.put _ (some 63) _ = _
                        simp only [Act.put, sib_, sc0_, sc1_, i64_w, i32_w]
                        rfl
                      refine one_ (i := 4) (N := some 61) #[t_,t_,t_,t_,t_,t_,t_,f_,f_] rfl rfl (one_of HT_.out (by kernel_rfl)) (by decide) (fun K hK => ?_)
                      refine Kd.R_append_rows_step k87 (w0 := w) w.heap.size (by rfl) (.tmp 57) (.tmp 60) 29 87 (.agg #[(.int .i64 0), (.int .i64 0), (.int .i64 0)]) 24 rfl Try.underlying29 info87 rfl (by decide) (by omega) v133 y132 y135 _ _ _ (fun k_ => some k_ ≠ (.slice (some ad129) x3_1.length co10 : Value).ownBlock ∧ some k_ ≠ (v143 : Value).ownBlock ∧ k_ ≠ gb128) (fun _ => False) rfl rfl ?aO ?aR (fun _ _ h => h) (fun _ h => h.elim) ?aF ?aB ?aS ?aL ?_
                      (case aR => repeat (first | exact (by repeat (first | (with_reducible exact HR138.out) | (with_reducible refine Kd.C_alloc ?_ _) | (with_reducible refine Kd.C_drewN ?_ _) | (with_reducible refine Kd.C_drew ?_) | exact HR138.out)) | (with_reducible refine Kd.C_alloc ?_ _) | (with_reducible refine Kd.C_drewN ?_ _) | (with_reducible refine Kd.C_drew ?_)))
                      (case aB => exact (by repeat (first | (with_reducible first | exact HB.out | apply below_alloc | apply pw_below_drewN | apply below_drew1 | refine below_setA ?_ (by assumption)) | exact HB.out)))
                      (case aF => exact (fun k_ hk => ⟨Kd.fresh' (Kd.R_lt (by (with_reducible repeat (first | apply Kd.R_alloc | apply Kd.R_drewN | apply Kd.R_drew)); exact HO_3.out)) k_ hk, Kd.fresh' (Kd.R_lt (by (with_reducible repeat (first | apply Kd.R_alloc | apply Kd.R_drewN | apply Kd.R_drew)); exact HO144.out)) k_ hk, Kd.freshB (g := gb128) (o := .cells #[.int .i64 ((rd_T87 l0_2 x14_1).f0), .int .i64 ((rd_T87 l0_2 x14_1).f1), .int .i64 ((rd_T87 l0_2 x14_1).f2)] 87 (0, 0)) BK128.out k_ hk⟩))
                      (case aO => exact (by (with_reducible repeat (first | apply Kd.R_alloc | apply Kd.R_drewN | apply Kd.R_drew)); exact Kd.R_mono HO134.out (fun _ hk => ⟨hk.1.1.2, ⟨hk.2, hk.1.2⟩⟩)))
                      (case aS => exact (below_size (by repeat (first | (with_reducible first | exact HB.out | apply below_alloc | apply pw_below_drewN | apply below_drew1 | refine below_setA ?_ (by assumption)) | exact HB.out))))
                      (case aL => have := LMc22.out; omega)
                      intro v140 w34 ho hb hg hat
                      rw [← Ny139.out] at ho
                      have n0_ := As_ (Kd.R_after (ok := (fun k_ => some k_ ≠ (v143 : Value).ownBlock ∧ k_ ≠ gb128)) (by (with_reducible repeat (first | apply Kd.R_alloc | apply Kd.R_drewN | apply Kd.R_drew)); exact Kd.R_mono HO_3.out (fun _ hk => ⟨⟨hk.2, hk.1.1⟩, hk.1.2⟩)) hg hat)
                      have n1_ := As_ (blk_grown (g := gb126) (o := .cells #[.int .i64 a0_0, .int .i64 a0_1, .slice (some ad127) l0_2.length c0_2] 31 (0, 0)) BK126.out hg (Kd.R_ne HO134.out BK126.out (by decide)))
                      have n2_ := As_ (blk_grown (g := gb128) (o := .cells #[.int .i64 ((rd_T87 l0_2 x14_1).f0), .int .i64 ((rd_T87 l0_2 x14_1).f1), .int .i64 ((rd_T87 l0_2 x14_1).f2)] 87 (0, 0)) BK128.out hg (Kd.R_away HO134.out (fun _ hk => hk.1.2)))
                      have n3_ := As_ (Kd.R_after (ok := (fun k_ => some k_ ≠ (.slice (some ad129) x3_1.length co10 : Value).ownBlock ∧ k_ ≠ gb128)) (by (with_reducible repeat (first | apply Kd.R_alloc | apply Kd.R_drewN | apply Kd.R_drew)); exact Kd.R_mono HO144.out (fun _ hk => ⟨⟨hk.1.1.2, hk.2⟩, hk.1.2⟩)) hg hat)
                      have n4_ := As_ (hb)
                      have n5_ := As_ ((show Kd.C k87 w34 (some ad129) y135.length y135 from by rw [Ny135.out]; exact Kd.C_take (m := (x6_2 : Int).toNat) ((Kd.R_reads' (Kd.R_after (ok := (fun k_ => some k_ ≠ (v143 : Value).ownBlock ∧ k_ ≠ gb128)) (by (with_reducible repeat (first | apply Kd.R_alloc | apply Kd.R_drewN | apply Kd.R_drew)); exact Kd.R_mono HO_3.out (fun _ hk => ⟨⟨hk.2, hk.1.1⟩, hk.1.2⟩)) hg hat)).2.2) KL29.out))
                      have n6_ := As_ (ho)
                      clear HO_3; clear BK126; clear BK128; clear HO144; clear HB; clear HR138; clear HO134
                      have HO_3 := n0_
                      have BK126 := n1_
                      have BK128 := n2_
                      have HO144 := n3_
                      have HB := n4_
                      have HR138 := n5_
                      have HO141 := n6_
                      clear n0_ n1_ n2_ n3_ n4_ n5_ n6_; clear ho hb hg hat
                      refine hK.out _ _ ⟨(blk_cell BK128.out 0).trans rfl, (blk_cell BK128.out 1).trans rfl, (blk_cell BK128.out 2).trans rfl⟩ (fun hHeld => ?_); clear hK K
                      refine norm_ (a' := ?_) ?_ ?_; rotate_left
                      · show Act.put _ (some 61) _ = _
                        simp only [Act.put, sib_, sc0_, sc1_, i64_w, i32_w]
                        rfl
                      exact norm_ (by simp only [putAll, Act.put, sib_, sc0_, sc1_]) (hCont (v133, v140, v143) _ ⟨hHeld, (by (with_reducible repeat (first | apply Kd.R_alloc | apply Kd.R_drewN | apply Kd.R_drew)); exact Kd.R_mono HO141.out (fun _ hk => ⟨hk.2.1, ⟨hk.1, hk.2.2⟩⟩)), (by (with_reducible repeat (first | apply Kd.R_alloc | apply Kd.R_drewN | apply Kd.R_drew)); exact Kd.R_mono HO144.out (fun _ hk => ⟨hk.2, ⟨hk.1.1, hk.1.2⟩⟩)), (by (with_reducible repeat (first | apply Kd.R_alloc | apply Kd.R_drewN | apply Kd.R_drew)); exact Kd.R_mono HO_3.out (fun _ hk => ⟨hk.2, ⟨hk.1.1, hk.1.2⟩⟩)), BK126.out, BK128.out, (by repeat (first | (with_reducible first | exact HB.out | apply below_alloc | apply pw_below_drewN | apply below_drew1 | refine below_setA ?_ (by assumption)) | exact HB.out))⟩)
                  · skip
                    refine Kd.R_lit_step k87 _ 87 ?hg (N := 63) ?hd (xs := ([(⟨((rd_T87 l0_2 x14_1).f0), ((rd_T87 l0_2 x14_1).f1), ((rd_T87 l0_2 x14_1).f2)⟩ : S87)] : List (S87))) (inner := [.int .i64 ((rd_T87 l0_2 x14_1).f0), .int .i64 ((rd_T87 l0_2 x14_1).f1), .int .i64 ((rd_T87 l0_2 x14_1).f2)]) (ok := fun _ => True) (okp := fun _ => True) ?hr ?hp (fun _ hk => hk) trivial (Below.refl _ _) (Nat.le_refl _) (by simp) ?_; (case hd => rfl); (case hg => rfl); (case hr => first | (go_simp; done) | (go_simp; rfl)); (case hp => exact (Reps.c3 (show Kd.M k87 _ _ _ (⟨((rd_T87 l0_2 x14_1).f0), ((rd_T87 l0_2 x14_1).f1), ((rd_T87 l0_2 x14_1).f2)⟩ : S87) [.int .i64 ((rd_T87 l0_2 x14_1).f0), .int .i64 ((rd_T87 l0_2 x14_1).f1), .int .i64 ((rd_T87 l0_2 x14_1).f2)] from (k87_mkM _ _ _ (⟨((rd_T87 l0_2 x14_1).f0), ((rd_T87 l0_2 x14_1).f1), ((rd_T87 l0_2 x14_1).f2)⟩ : S87) )) (Reps.none _ _)))
                    intro v143 w30 ho31 hb hg_ hnew_; clear hg_ hnew_
                    (first | rw [← Ny142.out] at ho31 | (simp only [Int.reduceToNat] at ho31; rw [← Ny142.out] at ho31))
                    have HO144 := As_ (Kd.R_lower (Kd.R_newB (Kd.R_new' ho31 (Kd.R_lt (by (with_reducible repeat (first | apply Kd.R_alloc | apply Kd.R_drewN | apply Kd.R_drew)); exact HO_3.out))) (g := gb128) (o := .cells #[.int .i64 ((rd_T87 l0_2 x14_1).f0), .int .i64 ((rd_T87 l0_2 x14_1).f1), .int .i64 ((rd_T87 l0_2 x14_1).f2)] 87 (0, 0)) BK128.out) (below_size (by repeat (first | (with_reducible first | exact HB.out | apply below_alloc | apply pw_below_drewN | apply below_drew1 | refine below_setA ?_ (by assumption)) | exact HB.out))))
                    replace HO_3 := As_ (Kd.R_elder' (by (with_reducible repeat (first | apply Kd.R_alloc | apply Kd.R_drewN | apply Kd.R_drew)); exact HO_3.out) (Kd.R_base ho31) hb)
                    replace BK126 := As_ (blk_b hb BK126.out)
                    replace BK128 := As_ (blk_b hb BK128.out)
                    replace HR138 := As_ (Kd.C_below (by repeat (first | (with_reducible exact HR138.out) | (with_reducible refine Kd.C_alloc ?_ _) | (with_reducible refine Kd.C_drewN ?_ _) | (with_reducible refine Kd.C_drew ?_) | exact HR138.out)) hb)
                    replace HB := As_ (below_step (by repeat (first | (with_reducible first | exact HB.out | apply below_alloc | apply pw_below_drewN | apply below_drew1 | refine below_setA ?_ (by assumption)) | exact HB.out)) hb); clear hb ho31
                    refine hK.out _ _ ⟨(blk_cell BK128.out 0).trans rfl, (blk_cell BK128.out 1).trans rfl, (blk_cell BK128.out 2).trans rfl⟩ (fun hHeld => ?_); clear hK K
                    refine norm_ (a' := ?_) ?_ ?_; rotate_left
                    · show Act.put _ (some 63) _ = _
                      simp only [Act.put, sib_, sc0_, sc1_, i64_w, i32_w]
                      rfl
                    refine one_ (i := 0) (N := some 57) #[t_,t_,t_,t_,f_,t_,t_,f_,f_] rfl rfl (one_of HT_.out (by kernel_rfl)) (by decide) (fun K hK => ?_)
                    refine Kd.R_lit_step k87 _ 87 ?hg (N := 57) ?hd (xs := ([] : List (S87))) (inner := []) (ok := fun _ => True) (okp := fun _ => True) ?hr ?hp (fun _ hk => hk) trivial (Below.refl _ _) (Nat.le_refl _) (by simp) ?_; (case hd => rfl); (case hg => rfl); (case hr => first | (go_simp; done) | (go_simp; rfl)); (case hp => exact (Reps.none _ _))
                    intro v133 w32 ho33 hb hg_ hnew_; clear hg_ hnew_
                    (first | rw [← Ny132.out] at ho33 | (simp only [Int.reduceToNat] at ho33; rw [← Ny132.out] at ho33))
                    have HO134 := As_ (Kd.R_lower (Kd.R_newB (Kd.R_new' (Kd.R_new' ho33 (Kd.R_lt (by (with_reducible repeat (first | apply Kd.R_alloc | apply Kd.R_drewN | apply Kd.R_drew)); exact HO_3.out))) (Kd.R_lt (by (with_reducible repeat (first | apply Kd.R_alloc | apply Kd.R_drewN | apply Kd.R_drew)); exact HO144.out))) (g := gb128) (o := .cells #[.int .i64 ((rd_T87 l0_2 x14_1).f0), .int .i64 ((rd_T87 l0_2 x14_1).f1), .int .i64 ((rd_T87 l0_2 x14_1).f2)] 87 (0, 0)) BK128.out) (below_size (by repeat (first | (with_reducible first | exact HB.out | apply below_alloc | apply pw_below_drewN | apply below_drew1 | refine below_setA ?_ (by assumption)) | exact HB.out))))
                    replace HO_3 := As_ (Kd.R_elder' (by (with_reducible repeat (first | apply Kd.R_alloc | apply Kd.R_drewN | apply Kd.R_drew)); exact HO_3.out) (Kd.R_base ho33) hb)
                    replace HO144 := As_ (Kd.R_elder' (by (with_reducible repeat (first | apply Kd.R_alloc | apply Kd.R_drewN | apply Kd.R_drew)); exact HO144.out) (Kd.R_base ho33) hb)
                    replace BK126 := As_ (blk_b hb BK126.out)
                    replace BK128 := As_ (blk_b hb BK128.out)
                    replace HR138 := As_ (Kd.C_below (by repeat (first | (with_reducible exact HR138.out) | (with_reducible refine Kd.C_alloc ?_ _) | (with_reducible refine Kd.C_drewN ?_ _) | (with_reducible refine Kd.C_drew ?_) | exact HR138.out)) hb)
                    replace HB := As_ (below_step (by repeat (first | (with_reducible first | exact HB.out | apply below_alloc | apply pw_below_drewN | apply below_drew1 | refine below_setA ?_ (by assumption)) | exact HB.out)) hb); clear hb ho33
                    refine hK.out _ _ ⟨(blk_cell BK128.out 0).trans rfl, (blk_cell BK128.out 1).trans rfl, (blk_cell BK128.out 2).trans rfl⟩ (fun hHeld => ?_); clear hK K
                    refine norm_ (a' := ?_) ?_ ?_; rotate_left
                    · show Act.put _ (some 57) _ = _
                      simp only [Act.put, sib_, sc0_, sc1_, i64_w, i32_w]
                      rfl
                    refine one_ (i := 4) (N := some 61) #[t_,t_,t_,t_,t_,t_,t_,f_,f_] rfl rfl (one_of HT_.out (by kernel_rfl)) (by decide) (fun K hK => ?_)
                    refine Kd.R_append_rows_step k87 (w0 := w) w.heap.size (by rfl) (.tmp 57) (.tmp 60) 29 87 (.agg #[(.int .i64 0), (.int .i64 0), (.int .i64 0)]) 24 rfl Try.underlying29 info87 rfl (by decide) (by omega) v133 y132 y135 _ _ _ (fun k_ => some k_ ≠ (.slice (some ad129) x3_1.length co10 : Value).ownBlock ∧ some k_ ≠ (v143 : Value).ownBlock ∧ k_ ≠ gb128) (fun _ => False) rfl rfl ?aO ?aR (fun _ _ h => h) (fun _ h => h.elim) ?aF ?aB ?aS ?aL ?_
                    (case aR => repeat (first | exact (by repeat (first | (with_reducible exact HR138.out) | (with_reducible refine Kd.C_alloc ?_ _) | (with_reducible refine Kd.C_drewN ?_ _) | (with_reducible refine Kd.C_drew ?_) | exact HR138.out)) | (with_reducible refine Kd.C_alloc ?_ _) | (with_reducible refine Kd.C_drewN ?_ _) | (with_reducible refine Kd.C_drew ?_)))
                    (case aB => exact (by repeat (first | (with_reducible first | exact HB.out | apply below_alloc | apply pw_below_drewN | apply below_drew1 | refine below_setA ?_ (by assumption)) | exact HB.out)))
                    (case aF => exact (fun k_ hk => ⟨Kd.fresh' (Kd.R_lt (by (with_reducible repeat (first | apply Kd.R_alloc | apply Kd.R_drewN | apply Kd.R_drew)); exact HO_3.out)) k_ hk, Kd.fresh' (Kd.R_lt (by (with_reducible repeat (first | apply Kd.R_alloc | apply Kd.R_drewN | apply Kd.R_drew)); exact HO144.out)) k_ hk, Kd.freshB (g := gb128) (o := .cells #[.int .i64 ((rd_T87 l0_2 x14_1).f0), .int .i64 ((rd_T87 l0_2 x14_1).f1), .int .i64 ((rd_T87 l0_2 x14_1).f2)] 87 (0, 0)) BK128.out k_ hk⟩))
                    (case aO => exact (by (with_reducible repeat (first | apply Kd.R_alloc | apply Kd.R_drewN | apply Kd.R_drew)); exact Kd.R_mono HO134.out (fun _ hk => ⟨hk.1.1.2, ⟨hk.1.2, hk.2⟩⟩)))
                    (case aS => exact (below_size (by repeat (first | (with_reducible first | exact HB.out | apply below_alloc | apply pw_below_drewN | apply below_drew1 | refine below_setA ?_ (by assumption)) | exact HB.out))))
                    (case aL => have := LMc22.out; omega)
                    intro v140 w34 ho hb hg hat
                    rw [← Ny139.out] at ho
                    have n0_ := As_ (Kd.R_after (ok := (fun k_ => some k_ ≠ (v143 : Value).ownBlock ∧ k_ ≠ gb128)) (by (with_reducible repeat (first | apply Kd.R_alloc | apply Kd.R_drewN | apply Kd.R_drew)); exact Kd.R_mono HO_3.out (fun _ hk => ⟨⟨hk.1.2, hk.1.1⟩, hk.2⟩)) hg hat)
                    have n1_ := As_ (blk_grown (g := gb126) (o := .cells #[.int .i64 a0_0, .int .i64 a0_1, .slice (some ad127) l0_2.length c0_2] 31 (0, 0)) BK126.out hg (Kd.R_ne HO134.out BK126.out (by decide)))
                    have n2_ := As_ (blk_grown (g := gb128) (o := .cells #[.int .i64 ((rd_T87 l0_2 x14_1).f0), .int .i64 ((rd_T87 l0_2 x14_1).f1), .int .i64 ((rd_T87 l0_2 x14_1).f2)] 87 (0, 0)) BK128.out hg (Kd.R_away HO134.out (fun _ hk => hk.2)))
                    have n3_ := As_ (Kd.R_after (ok := (fun k_ => some k_ ≠ (.slice (some ad129) x3_1.length co10 : Value).ownBlock ∧ k_ ≠ gb128)) (by (with_reducible repeat (first | apply Kd.R_alloc | apply Kd.R_drewN | apply Kd.R_drew)); exact Kd.R_mono HO144.out (fun _ hk => ⟨⟨hk.1.1.2, hk.1.2⟩, hk.2⟩)) hg hat)
                    have n4_ := As_ (hb)
                    have n5_ := As_ ((show Kd.C k87 w34 (some ad129) y135.length y135 from by rw [Ny135.out]; exact Kd.C_take (m := (x6_2 : Int).toNat) ((Kd.R_reads' (Kd.R_after (ok := (fun k_ => some k_ ≠ (v143 : Value).ownBlock ∧ k_ ≠ gb128)) (by (with_reducible repeat (first | apply Kd.R_alloc | apply Kd.R_drewN | apply Kd.R_drew)); exact Kd.R_mono HO_3.out (fun _ hk => ⟨⟨hk.1.2, hk.1.1⟩, hk.2⟩)) hg hat)).2.2) KL29.out))
                    have n6_ := As_ (ho)
                    clear HO_3; clear BK126; clear BK128; clear HO144; clear HB; clear HR138; clear HO134
                    have HO_3 := n0_
                    have BK126 := n1_
                    have BK128 := n2_
                    have HO144 := n3_
                    have HB := n4_
                    have HR138 := n5_
                    have HO141 := n6_
                    clear n0_ n1_ n2_ n3_ n4_ n5_ n6_; clear ho hb hg hat
                    refine hK.out _ _ ⟨(blk_cell BK128.out 0).trans rfl, (blk_cell BK128.out 1).trans rfl, (blk_cell BK128.out 2).trans rfl⟩ (fun hHeld => ?_); clear hK K
                    refine norm_ (a' := ?_) ?_ ?_; rotate_left
                    · show Act.put _ (some 61) _ = _
                      simp only [Act.put, sib_, sc0_, sc1_, i64_w, i32_w]
                      rfl
                    exact norm_ (by simp only [putAll, Act.put, sib_, sc0_, sc1_]) (hCont (v133, v140, v143) _ ⟨hHeld, (by (with_reducible repeat (first | apply Kd.R_alloc | apply Kd.R_drewN | apply Kd.R_drew)); exact Kd.R_mono HO141.out (fun _ hk => ⟨hk.2.1, ⟨hk.1, hk.2.2⟩⟩)), (by (with_reducible repeat (first | apply Kd.R_alloc | apply Kd.R_drewN | apply Kd.R_drew)); exact Kd.R_mono HO144.out (fun _ hk => ⟨hk.2, ⟨hk.1.1, hk.1.2⟩⟩)), (by (with_reducible repeat (first | apply Kd.R_alloc | apply Kd.R_drewN | apply Kd.R_drew)); exact Kd.R_mono HO_3.out (fun _ hk => ⟨hk.2, ⟨hk.1.1, hk.1.2⟩⟩)), BK126.out, BK128.out, (by repeat (first | (with_reducible first | exact HB.out | apply below_alloc | apply pw_below_drewN | apply below_drew1 | refine below_setA ?_ (by assumption)) | exact HB.out))⟩)
                rintro ⟨v133, v140, v143⟩ w35 ⟨hS_, h0_, h1_, h2_, h3_, h4_, h5_⟩
                have n0_ : Aside0 (Kd.R k87 87 w35 w.heap.size (fun k_ => some k_ ≠ (v143 : Value).ownBlock ∧ some k_ ≠ (.slice (some ad129) x3_1.length co10 : Value).ownBlock ∧ k_ ≠ gb128) v140 y139) := ⟨h0_⟩
                have n1_ : Aside0 (Kd.R k87 87 w35 w.heap.size (fun k_ => some k_ ≠ (v140 : Value).ownBlock ∧ some k_ ≠ (.slice (some ad129) x3_1.length co10 : Value).ownBlock ∧ k_ ≠ gb128) v143 y142) := ⟨h1_⟩
                have n2_ : Aside0 (Kd.R k87 87 w35 w.heap.size (fun k_ => some k_ ≠ (v140 : Value).ownBlock ∧ some k_ ≠ (v143 : Value).ownBlock ∧ k_ ≠ gb128) (.slice (some ad129) x3_1.length co10) x3_1) := ⟨h2_⟩
                have n3_ : Aside0 (w35.heap[gb126]? = some (.cells #[.int .i64 a0_0, .int .i64 a0_1, .slice (some ad127) l0_2.length c0_2] 31 (0, 0))) := ⟨h3_⟩
                have n4_ : Aside0 (w35.heap[gb128]? = some (.cells #[.int .i64 ((rd_T87 l0_2 x14_1).f0), .int .i64 ((rd_T87 l0_2 x14_1).f1), .int .i64 ((rd_T87 l0_2 x14_1).f2)] 87 (0, 0))) := ⟨h4_⟩
                have n5_ : Aside0 (Below w.heap.size w w35) := ⟨h5_⟩
                clear HO_3; clear BK126; clear BK128; clear HB; clear h0_ h1_ h2_ h3_ h4_ h5_
                have HO141 := n0_
                have HO144 := n1_
                have HO_3 := n2_
                have BK126 := n3_
                have BK128 := n4_
                have HB := n5_
                clear n0_ n1_ n2_ n3_ n4_ n5_
                have hHeld : w35.cell? ⟨gb128, 0, none⟩ = some (.int .i64 ((rd_T87 l0_2 x14_1).f0)) ∧ w35.cell? ⟨gb128, 1, none⟩ = some (.int .i64 ((rd_T87 l0_2 x14_1).f1)) ∧ w35.cell? ⟨gb128, 2, none⟩ = some (.int .i64 ((rd_T87 l0_2 x14_1).f2)) := hS_
                obtain ⟨Ao37, co37, eo37⟩ := Kd.R_slice HO144.out
                (first | subst eo37 | (injection eo37 with f1_ f2_ f3_; have f4_ := f1_.symm; have f5_ := f3_.symm; clear f1_ f2_ f3_; subst f4_; subst f5_))
                refine norm_ (a' := ?_) ?_ ?_; rotate_left
                · simp only [putAll, Act.put, sib_, sc0_, sc1_]; rfl
                refine one_ (i := 7) (N := some 64) #[t_,t_,t_,t_,t_,t_,t_,t_,f_] rfl rfl (one_of HT_.out (by kernel_rfl)) (by decide) (fun K hK => ?_)
                refine Kd.R_append_rows_step k87 (w0 := w) w.heap.size (by rfl) (.tmp 61) (.tmp 63) 29 87 (.agg #[(.int .i64 0), (.int .i64 0), (.int .i64 0)]) 24 rfl Try.underlying29 info87 rfl (by decide) (by omega) v140 y139 y142 _ _ _ (fun k_ => some k_ ≠ (.slice (some ad129) x3_1.length co10 : Value).ownBlock ∧ some k_ ≠ (.slice Ao37 y142.length co37 : Value).ownBlock ∧ k_ ≠ gb128) (fun _ => False) rfl rfl ?aO ?aR (fun _ _ h => h) (fun _ h => h.elim) ?aF ?aB ?aS ?aL ?_
                (case aR => repeat (first | exact (Kd.R_reads' HO144.out).2.2 | (with_reducible refine Kd.C_alloc ?_ _) | (with_reducible refine Kd.C_drewN ?_ _) | (with_reducible refine Kd.C_drew ?_)))
                (case aB => exact (by repeat (first | (with_reducible first | exact HB.out | apply below_alloc | apply pw_below_drewN | apply below_drew1 | refine below_setA ?_ (by assumption)) | exact HB.out)))
                (case aF => exact (fun k_ hk => ⟨Kd.fresh' (Kd.R_lt (by (with_reducible repeat (first | apply Kd.R_alloc | apply Kd.R_drewN | apply Kd.R_drew)); exact HO_3.out)) k_ hk, Kd.fresh' (Kd.R_lt (by (with_reducible repeat (first | apply Kd.R_alloc | apply Kd.R_drewN | apply Kd.R_drew)); exact HO144.out)) k_ hk, Kd.freshB (g := gb128) (o := .cells #[.int .i64 ((rd_T87 l0_2 x14_1).f0), .int .i64 ((rd_T87 l0_2 x14_1).f1), .int .i64 ((rd_T87 l0_2 x14_1).f2)] 87 (0, 0)) BK128.out k_ hk⟩))
                (case aO => exact (by (with_reducible repeat (first | apply Kd.R_alloc | apply Kd.R_drewN | apply Kd.R_drew)); exact Kd.R_mono HO141.out (fun _ hk => ⟨hk.2.1, ⟨hk.1, hk.2.2⟩⟩)))
                (case aS => exact (below_size (by repeat (first | (with_reducible first | exact HB.out | apply below_alloc | apply pw_below_drewN | apply below_drew1 | refine below_setA ?_ (by assumption)) | exact HB.out))))
                (case aL => have := LMc23.out; omega)
                intro v146 w36 ho hb hg hat
                rw [← Ny145.out] at ho
                have n0_ := As_ (Kd.R_after (ok := (fun k_ => some k_ ≠ (.slice Ao37 y142.length co37 : Value).ownBlock ∧ k_ ≠ gb128)) (by (with_reducible repeat (first | apply Kd.R_alloc | apply Kd.R_drewN | apply Kd.R_drew)); exact Kd.R_mono HO_3.out (fun _ hk => ⟨⟨hk.2.1, hk.2.2⟩, hk.1⟩)) hg hat)
                have n1_ := As_ (blk_grown (g := gb126) (o := .cells #[.int .i64 a0_0, .int .i64 a0_1, .slice (some ad127) l0_2.length c0_2] 31 (0, 0)) BK126.out hg (Kd.R_ne HO141.out BK126.out (by decide)))
                have n2_ := As_ (blk_grown (g := gb128) (o := .cells #[.int .i64 ((rd_T87 l0_2 x14_1).f0), .int .i64 ((rd_T87 l0_2 x14_1).f1), .int .i64 ((rd_T87 l0_2 x14_1).f2)] 87 (0, 0)) BK128.out hg (Kd.R_away HO141.out (fun _ hk => hk.2.2)))
                have n3_ := As_ (Kd.R_after (ok := (fun k_ => some k_ ≠ (.slice (some ad129) x3_1.length co10 : Value).ownBlock ∧ k_ ≠ gb128)) (by (with_reducible repeat (first | apply Kd.R_alloc | apply Kd.R_drewN | apply Kd.R_drew)); exact Kd.R_mono HO144.out (fun _ hk => ⟨⟨hk.2.1, hk.2.2⟩, hk.1⟩)) hg hat)
                have n4_ := As_ (hb)
                have n5_ := As_ (ho)
                clear HO_3; clear BK126; clear BK128; clear HO144; clear HB; clear HO141
                have HO_3 := n0_
                have BK126 := n1_
                have BK128 := n2_
                have HO144 := n3_
                have HB := n4_
                have HO147 := n5_
                clear n0_ n1_ n2_ n3_ n4_ n5_; clear ho hb hg hat
                refine hK.out _ _ ⟨(blk_cell BK128.out 0).trans rfl, (blk_cell BK128.out 1).trans rfl, (blk_cell BK128.out 2).trans rfl⟩ (fun hHeld => ?_); clear hK K
                refine norm_ (a' := ?_) ?_ ?_; rotate_left
                · show Act.put _ (some 64) _ = _
                  simp only [Act.put, sib_, sc0_, sc1_, i64_w, i32_w]
                  rfl
                refine pure_ (i := 8) (N := some 7) (v := ?_) (a' := ?_) #[t_,t_,t_,t_,t_,t_,t_,t_,t_] rfl rfl (any_of HT_.out (by kernel_rfl)) (fun _ _ _ h => h) (Or.inl ⟨by rfl, ?_⟩) ?_ ?_; rotate_left
                · intro w'; go_simp; with_reducible rfl
                rotate_left
                · simp only [Act.put, sib_, sc0_, sc1_, i64_w, i32_w]; rfl
                refine done_ (done_of HT_.out (by kernel_rfl)) ?_
                have q38 : (x6_2 : Int) ≤ ((x3_1.length : Int) : Int) := of_decide_eq_true (by first | (with_reducible assumption) | assumption)
                obtain ⟨i038, hi038, _, hsz38, _⟩ := info_parts info87
                have hroom38 : x3_1.length ≤ co10 := (Kd.R_reads' HO_3.out).2.1
                have hC38 : Kd.C k87 _ (some ad129) x3_1.length x3_1 := (Kd.R_reads' HO_3.out).2.2
                have q038 : (0 : Int) ≤ (x6_2 : Int) := of_decide_eq_true (by first | (with_reducible assumption) | assumption)
                have hcut38 := cut_from (P := Try.prog) 29 87 .i64 Try.underlying29 hi038 3 hsz38 (some ad129) x3_1.length co10 x6_2 q038 q38
                have hr38 := Kd.C_drop (m := (x6_2 : Int).toNat) (c := co10) hC38 (by omega) hroom38
                obtain ⟨A38, hA38⟩ : ∃ A1, A1 = (if co10 = (x6_2 : Int).toNat then (some ad129) else ((some ad129) : Option Addr).map (·.add ((x6_2 : Int).toNat * 3))) := ⟨_, rfl⟩
                obtain ⟨c38, hc38⟩ : ∃ c1, c1 = co10 - (x6_2 : Int).toNat := ⟨_, rfl⟩
                have hy38 : y148.length = x3_1.length - (x6_2 : Int).toNat := (by rw [Ny148.out, List.length_drop] <;> omega)
                rw [show (x3_1).drop (x6_2 : Int).toNat = y148 from Ny148.out.symm] at hr38
                replace hr38 : Kd.C k87 _ A38 y148.length y148 := (by rw [hA38]; exact hr38)
                rw [← hy38, ← hA38, ← hc38] at hcut38
                have HR151 := As_ hr38
                have HC151 := As_ (show y148.length ≤ c38 from by rw [hy38, hc38]; exact Nat.sub_le_sub_right hroom38 _)
                clear hr38 hC38 hroom38 hi038 hsz38 hc38
                have KY38 := As_ hy38
                have KA38 := As_ hA38
                clear hy38 hA38
                have KL38 := As_ (show (x6_2 : Int).toNat ≤ x3_1.length from by omega)
                replace q38 := eq_true q38
                try go_wp2_with (first | ((with_reducible refine gate_builtin (b := .append) (xs := #[.tmp 65, .tmp 68]) rfl ?_); at_builtin; refine Kd.R_append_rows k87 (w0 := w) w.heap.size rfl (.tmp 65) (.tmp 68) 29 87 (.agg #[(.int .i64 0), (.int .i64 0), (.int .i64 0)]) 24 rfl Try.underlying29 info87 rfl (by decide) (by omega) v146 y145 y148 _ _ _ (fun k_ => some k_ ≠ (.slice (some ad129) x3_1.length co10 : Value).ownBlock ∧ some k_ ≠ (.slice Ao37 y142.length co37 : Value).ownBlock ∧ k_ ≠ gb128) (fun _ => False) rfl rfl ?aO ?aR (fun _ _ h => h) (fun _ h => h.elim) ?aF ?aB ?aS ?aL ?_; (case aR => repeat (first | exact (by repeat (first | (with_reducible exact HR151.out) | (with_reducible refine Kd.C_alloc ?_ _) | (with_reducible refine Kd.C_drewN ?_ _) | (with_reducible refine Kd.C_drew ?_) | exact HR151.out)) | (with_reducible refine Kd.C_alloc ?_ _) | (with_reducible refine Kd.C_drewN ?_ _) | (with_reducible refine Kd.C_drew ?_))); (case aB => exact (by repeat (first | (with_reducible first | exact HB.out | apply below_alloc | apply pw_below_drewN | apply below_drew1 | refine below_setA ?_ (by assumption)) | exact HB.out))); (case aF => exact (fun k_ hk => ⟨Kd.fresh' (Kd.R_lt (by (with_reducible repeat (first | apply Kd.R_alloc | apply Kd.R_drewN | apply Kd.R_drew)); exact HO_3.out)) k_ hk, Kd.fresh' (Kd.R_lt (by (with_reducible repeat (first | apply Kd.R_alloc | apply Kd.R_drewN | apply Kd.R_drew)); exact HO144.out)) k_ hk, Kd.freshB (g := gb128) (o := .cells #[.int .i64 ((rd_T87 l0_2 x14_1).f0), .int .i64 ((rd_T87 l0_2 x14_1).f1), .int .i64 ((rd_T87 l0_2 x14_1).f2)] 87 (0, 0)) BK128.out k_ hk⟩)); (case aO => exact (by (with_reducible repeat (first | apply Kd.R_alloc | apply Kd.R_drewN | apply Kd.R_drew)); exact HO147.out)); (case aS => exact (below_size (by repeat (first | (with_reducible first | exact HB.out | apply below_alloc | apply pw_below_drewN | apply below_drew1 | refine below_setA ?_ (by assumption)) | exact HB.out)))); (case aL => have := LMc26.out; omega); intro v153 w39 ho hb hg hat; rw [← Ny152.out] at ho; have n0_ := As_ (Kd.R_after (ok := (fun k_ => some k_ ≠ (.slice Ao37 y142.length co37 : Value).ownBlock ∧ k_ ≠ gb128)) (by (with_reducible repeat (first | apply Kd.R_alloc | apply Kd.R_drewN | apply Kd.R_drew)); exact HO_3.out) hg hat); have n1_ := As_ (blk_grown (g := gb126) (o := .cells #[.int .i64 a0_0, .int .i64 a0_1, .slice (some ad127) l0_2.length c0_2] 31 (0, 0)) BK126.out hg (Kd.R_ne HO147.out BK126.out (by decide))); have n2_ := As_ (blk_grown (g := gb128) (o := .cells #[.int .i64 ((rd_T87 l0_2 x14_1).f0), .int .i64 ((rd_T87 l0_2 x14_1).f1), .int .i64 ((rd_T87 l0_2 x14_1).f2)] 87 (0, 0)) BK128.out hg (Kd.R_away HO147.out (fun _ hk => hk.2.2))); have n3_ := As_ (Kd.R_after (ok := (fun k_ => some k_ ≠ (.slice (some ad129) x3_1.length co10 : Value).ownBlock ∧ k_ ≠ gb128)) (by (with_reducible repeat (first | apply Kd.R_alloc | apply Kd.R_drewN | apply Kd.R_drew)); exact HO144.out) hg hat); have n4_ := As_ (hb); have n5_ := As_ ((show Kd.C k87 w39 A38 y148.length y148 from by rw [Ny148.out, KA38.out]; exact Kd.C_drop (m := (x6_2 : Int).toNat) (c := co10) ((Kd.R_reads' (Kd.R_after (ok := (fun k_ => some k_ ≠ (.slice Ao37 y142.length co37 : Value).ownBlock ∧ k_ ≠ gb128)) (by (with_reducible repeat (first | apply Kd.R_alloc | apply Kd.R_drewN | apply Kd.R_drew)); exact HO_3.out) hg hat)).2.2) KL38.out ((Kd.R_reads' (Kd.R_after (ok := (fun k_ => some k_ ≠ (.slice Ao37 y142.length co37 : Value).ownBlock ∧ k_ ≠ gb128)) (by (with_reducible repeat (first | apply Kd.R_alloc | apply Kd.R_drewN | apply Kd.R_drew)); exact HO_3.out) hg hat)).2.1))); have n6_ := As_ (ho); clear HO_3; clear BK126; clear BK128; clear HO144; clear HB; clear HR151; clear HO147; have HO_3 := n0_; have BK126 := n1_; have BK128 := n2_; have HO144 := n3_; have HB := n4_; have HR151 := n5_; have HO154 := n6_; clear n0_ n1_ n2_ n3_ n4_ n5_ n6_; clear ho hb hg hat))
                go_roundg k2
                case measure => have := HK1.out; have := HK2.out; omega
                case rel => exact ⟨(y152), (wrap64 (x14_1 + 1)), (by first | rfl | (simp; done) | (simp [*]; done)), H', ⟨by have := HK1.out; have := HK2.out; omega⟩, ⟨by (with_reducible repeat (first | apply Kd.R_alloc | apply Kd.R_drewN | apply Kd.R_drew)); exact Kd.R_mono HO154.out (fun _ hk => trivial)⟩, ⟨by (with_reducible repeat (first | refine blk_drewN ?_ _ | refine blk_drew ?_ | refine blk_alloc ?_ _)); exact BK126.out⟩, ⟨by repeat (first | (with_reducible first | exact HB.out | apply below_alloc | apply pw_below_drewN | apply below_drew1 | refine below_setA ?_ (by assumption)) | exact HB.out)⟩⟩
            · rw [if_neg c17] at H
              have c17b0 : (((rd_T87 l0_2 x14_1).f0) == ((rd_T87 x3_1 (ji12)).f0)) = false := beq_eq_false_iff_ne.mpr c17
              have c17b1 : (((rd_T87 l0_2 x14_1).f0) != ((rd_T87 x3_1 (ji12)).f0)) = true := bne_iff_ne.mpr c17
              obtain ⟨y155, hy155⟩ : ∃ y_ : List (S87), y_ = (([] : List (S87))) := ⟨_, rfl⟩
              replace H : (if 0 ≤ x6_2 then (if x6_2 ≤ (x3_1.length : Int) then ((some (x3_1.take (x6_2 : Int).toNat : List (S87))).bind fun y158 => (if y155.length + y158.length < 5864062014805 then ((some (y155 ++ y158 : List (S87))).bind fun y162 => ((some (([(⟨((rd_T87 l0_2 x14_1).f0), ((rd_T87 l0_2 x14_1).f1), ((rd_T87 l0_2 x14_1).f2)⟩ : S87)] : List (S87)) : List (S87))).bind fun y165 => (if y162.length + y165.length < 5864062014805 then ((some (y162 ++ y165 : List (S87))).bind fun y168 => ((some (x3_1.drop (x6_2 : Int).toNat : List (S87))).bind fun y171 => (if y168.length + y171.length < 5864062014805 then (spec_stSides.l0 k2 (y168 ++ y171) l0_2 (l0_2.length : Int) (wrap64 (x14_1 + 1))) else (none)))) else (none)))) else (none))) else (none)) else (none)) = some r := by first | (rw [hy155]; with_reducible exact H) | (have H2_ := (Option.bind_some _ _).symm.trans H; rw [hy155]; with_reducible exact H2_) | (have H2_ := (Option.bind_some _ _).symm.trans H; with_reducible exact H2_) | with_reducible exact H | (rw [hy155]; exact H) | exact H
              have Ny155 := As_ hy155
              clear hy155
              by_cases c40 : 0 ≤ x6_2
              case neg => rw [if_neg c40] at H; exact absurd H (by simp)
              rw [if_pos c40] at H
              have c40b0 := eq_true c40
              have c40b1 : decide (0 ≤ x6_2) = true := decide_eq_true c40
              clear c40
              by_cases c41 : x6_2 ≤ (x3_1.length : Int)
              case neg => rw [if_neg c41] at H; exact absurd H (by simp)
              rw [if_pos c41] at H
              have c41b0 := eq_true c41
              have c41b1 : decide (x6_2 ≤ (x3_1.length : Int)) = true := decide_eq_true c41
              clear c41
              obtain ⟨y158, hy158⟩ : ∃ y_ : List (S87), y_ = (x3_1.take (x6_2 : Int).toNat) := ⟨_, rfl⟩
              replace H : (if y155.length + y158.length < 5864062014805 then ((some (y155 ++ y158 : List (S87))).bind fun y162 => ((some (([(⟨((rd_T87 l0_2 x14_1).f0), ((rd_T87 l0_2 x14_1).f1), ((rd_T87 l0_2 x14_1).f2)⟩ : S87)] : List (S87)) : List (S87))).bind fun y165 => (if y162.length + y165.length < 5864062014805 then ((some (y162 ++ y165 : List (S87))).bind fun y168 => ((some (x3_1.drop (x6_2 : Int).toNat : List (S87))).bind fun y171 => (if y168.length + y171.length < 5864062014805 then (spec_stSides.l0 k2 (y168 ++ y171) l0_2 (l0_2.length : Int) (wrap64 (x14_1 + 1))) else (none)))) else (none)))) else (none)) = some r := by first | (rw [hy158]; with_reducible exact H) | (have H2_ := (Option.bind_some _ _).symm.trans H; rw [hy158]; with_reducible exact H2_) | (have H2_ := (Option.bind_some _ _).symm.trans H; with_reducible exact H2_) | with_reducible exact H | (rw [hy158]; exact H) | exact H
              have Ny158 := As_ hy158
              clear hy158
              by_cases c42 : y155.length + y158.length < 5864062014805
              case neg => rw [if_neg c42] at H; exact absurd H (by simp)
              rw [if_pos c42] at H
              have LMc42 := As_ c42
              clear c42
              obtain ⟨y162, hy162⟩ : ∃ y_ : List (S87), y_ = (y155 ++ y158) := ⟨_, rfl⟩
              replace H : ((some (([(⟨((rd_T87 l0_2 x14_1).f0), ((rd_T87 l0_2 x14_1).f1), ((rd_T87 l0_2 x14_1).f2)⟩ : S87)] : List (S87)) : List (S87))).bind fun y165 => (if y162.length + y165.length < 5864062014805 then ((some (y162 ++ y165 : List (S87))).bind fun y168 => ((some (x3_1.drop (x6_2 : Int).toNat : List (S87))).bind fun y171 => (if y168.length + y171.length < 5864062014805 then (spec_stSides.l0 k2 (y168 ++ y171) l0_2 (l0_2.length : Int) (wrap64 (x14_1 + 1))) else (none)))) else (none))) = some r := by first | (rw [hy162]; with_reducible exact H) | (have H2_ := (Option.bind_some _ _).symm.trans H; rw [hy162]; with_reducible exact H2_) | (have H2_ := (Option.bind_some _ _).symm.trans H; with_reducible exact H2_) | with_reducible exact H | (rw [hy162]; exact H) | exact H
              have Ny162 := As_ hy162
              clear hy162
              obtain ⟨y165, hy165⟩ : ∃ y_ : List (S87), y_ = (([(⟨((rd_T87 l0_2 x14_1).f0), ((rd_T87 l0_2 x14_1).f1), ((rd_T87 l0_2 x14_1).f2)⟩ : S87)] : List (S87))) := ⟨_, rfl⟩
              replace H : (if y162.length + y165.length < 5864062014805 then ((some (y162 ++ y165 : List (S87))).bind fun y168 => ((some (x3_1.drop (x6_2 : Int).toNat : List (S87))).bind fun y171 => (if y168.length + y171.length < 5864062014805 then (spec_stSides.l0 k2 (y168 ++ y171) l0_2 (l0_2.length : Int) (wrap64 (x14_1 + 1))) else (none)))) else (none)) = some r := by first | (rw [hy165]; with_reducible exact H) | (have H2_ := (Option.bind_some _ _).symm.trans H; rw [hy165]; with_reducible exact H2_) | (have H2_ := (Option.bind_some _ _).symm.trans H; with_reducible exact H2_) | with_reducible exact H | (rw [hy165]; exact H) | exact H
              have Ny165 := As_ hy165
              clear hy165
              by_cases c43 : y162.length + y165.length < 5864062014805
              case neg => rw [if_neg c43] at H; exact absurd H (by simp)
              rw [if_pos c43] at H
              have LMc43 := As_ c43
              clear c43
              obtain ⟨y168, hy168⟩ : ∃ y_ : List (S87), y_ = (y162 ++ y165) := ⟨_, rfl⟩
              replace H : ((some (x3_1.drop (x6_2 : Int).toNat : List (S87))).bind fun y171 => (if y168.length + y171.length < 5864062014805 then (spec_stSides.l0 k2 (y168 ++ y171) l0_2 (l0_2.length : Int) (wrap64 (x14_1 + 1))) else (none))) = some r := by first | (rw [hy168]; with_reducible exact H) | (have H2_ := (Option.bind_some _ _).symm.trans H; rw [hy168]; with_reducible exact H2_) | (have H2_ := (Option.bind_some _ _).symm.trans H; with_reducible exact H2_) | with_reducible exact H | (rw [hy168]; exact H) | exact H
              have Ny168 := As_ hy168
              clear hy168
              have c44b0 := eq_true (of_decide_eq_true (by first | (with_reducible assumption) | assumption) : 0 ≤ x6_2)
              have c45b0 := eq_true (of_decide_eq_true (by first | (with_reducible assumption) | assumption) : x6_2 ≤ (x3_1.length : Int))
              obtain ⟨y171, hy171⟩ : ∃ y_ : List (S87), y_ = (x3_1.drop (x6_2 : Int).toNat) := ⟨_, rfl⟩
              replace H : (if y168.length + y171.length < 5864062014805 then (spec_stSides.l0 k2 (y168 ++ y171) l0_2 (l0_2.length : Int) (wrap64 (x14_1 + 1))) else (none)) = some r := by first | (rw [hy171]; with_reducible exact H) | (have H2_ := (Option.bind_some _ _).symm.trans H; rw [hy171]; with_reducible exact H2_) | (have H2_ := (Option.bind_some _ _).symm.trans H; with_reducible exact H2_) | with_reducible exact H | (rw [hy171]; exact H) | exact H
              have Ny171 := As_ hy171
              clear hy171
              by_cases c46 : y168.length + y171.length < 5864062014805
              case neg => rw [if_neg c46] at H; exact absurd H (by simp)
              rw [if_pos c46] at H
              have LMc46 := As_ c46
              clear c46
              obtain ⟨y175, hy175⟩ : ∃ y_ : List (S87), y_ = (y168 ++ y171) := ⟨_, rfl⟩
              replace H : (spec_stSides.l0 k2 y175 l0_2 (l0_2.length : Int) (wrap64 (x14_1 + 1))) = some r := by first | (rw [hy175]; with_reducible exact H) | (have H2_ := (Option.bind_some _ _).symm.trans H; rw [hy175]; with_reducible exact H2_) | (have H2_ := (Option.bind_some _ _).symm.trans H; with_reducible exact H2_) | with_reducible exact H | (rw [hy175]; exact H) | exact H
              have Ny175 := As_ hy175
              clear hy175
              have H' := As_ H
              clear H
              try go_wp2
              replace HO_3 := As_ (Kd.R_drew HO_3.out)
              replace BK126 := As_ (blk_drew BK126.out)
              replace BK128 := As_ (blk_drew BK128.out)
              replace HB := As_ (below_drew1 HB.out)
              have p129 : 0 ≤ ((ji12) : Int) := of_decide_eq_true (by first | (with_reducible assumption) | assumption)
              have q129 : (ji12) < (x3_1.length : Int) := of_decide_eq_true (by first | (with_reducible assumption) | assumption)
              obtain ⟨ad129, e129, hx129_0, hx129_1, hx129_2⟩ := at_T87 (Kd.R_reads' HO_3.out).2.2 (ji12) p129 q129
              cases e129
              replace p129 := eq_true p129
              replace q129 := eq_true q129
              have p130 : 0 ≤ ((ji12) : Int) := of_decide_eq_true (by first | (with_reducible assumption) | assumption)
              have q130 : (ji12) < (x3_1.length : Int) := of_decide_eq_true (by first | (with_reducible assumption) | assumption)
              obtain ⟨ad130, e130, hx130_0, hx130_1, hx130_2⟩ := at_T87 (Kd.R_reads' HO_3.out).2.2 (ji12) p130 q130
              obtain rfl : ad129 = ad130 := (by injection e130)
              replace p130 := eq_true p130
              replace q130 := eq_true q130
              refine start_ (n := 35) (S := fun w' => w'.cell? ⟨gb128, 0, none⟩ = some (.int .i64 ((rd_T87 l0_2 x14_1).f0)) ∧ w'.cell? ⟨gb128, 1, none⟩ = some (.int .i64 ((rd_T87 l0_2 x14_1).f1)) ∧ w'.cell? ⟨gb128, 2, none⟩ = some (.int .i64 ((rd_T87 l0_2 x14_1).f2)) ∧ w'.cell? (ad129.add (((ji12)).toNat * 3)) = some (.int .i64 ((rd_T87 x3_1 (ji12)).f0)) ∧ w'.cell? ⟨(ad129.add (((ji12)).toNat * 3)).block, (ad129.add (((ji12)).toNat * 3)).off + 1, none⟩ = some (.int .i64 ((rd_T87 x3_1 (ji12)).f1)) ∧ w'.cell? ⟨(ad129.add (((ji12)).toNat * 3)).block, (ad129.add (((ji12)).toNat * 3)).off + 2, none⟩ = some (.int .i64 ((rd_T87 x3_1 (ji12)).f2)) ∧ w'.cell? (ad129.add (((ji12)).toNat * 3)) = some (.int .i64 ((rd_T87 x3_1 (ji12)).f0)) ∧ w'.cell? ⟨(ad129.add (((ji12)).toNat * 3)).block, (ad129.add (((ji12)).toNat * 3)).off + 1, none⟩ = some (.int .i64 ((rd_T87 x3_1 (ji12)).f1)) ∧ w'.cell? ⟨(ad129.add (((ji12)).toNat * 3)).block, (ad129.add (((ji12)).toNat * 3)).off + 2, none⟩ = some (.int .i64 ((rd_T87 x3_1 (ji12)).f2))) (ds := []) #[f_,f_,f_,f_,f_,f_,f_,f_,f_,f_,f_,f_,f_,f_,f_,f_,f_,f_,f_,f_,f_,f_,f_,f_,f_,f_,f_,f_,f_,f_,f_,f_,f_,f_,f_] (by kernel_rfl) rfl rfl ⟨(blk_cell BK128.out 0).trans rfl, (blk_cell BK128.out 1).trans rfl, (blk_cell BK128.out 2).trans rfl, hx129_0, hx129_1, hx129_2, hx130_0, hx130_1, hx130_2⟩ (fun hHeld => ?_); refine with_tabW spec_stSides.tab6 spec_stSides.bits6 (fun HT_ HW_ => ?_)
              generalize wr.drew = w47 at HO_3 BK126 BK128 HB hx129_0 hx129_1 hx129_2 hx130_0 hx130_1 hx130_2 hHeld ⊢
              refine pure_ (i := 0) (N := some 20) (v := ?_) (a' := ?_) #[t_,f_,f_,f_,f_,f_,f_,f_,f_,f_,f_,f_,f_,f_,f_,f_,f_,f_,f_,f_,f_,f_,f_,f_,f_,f_,f_,f_,f_,f_,f_,f_,f_,f_,f_] rfl rfl (any_of HT_.out (by kernel_rfl)) (fun _ _ _ h => h) (Or.inl ⟨by rfl, ?_⟩) ?_ ?_; rotate_left
              · intro w'; go_simp; with_reducible rfl
              rotate_left
              · simp only [Act.put, sib_, sc0_, sc1_, i64_w, i32_w]; rfl
              refine pure_ (i := 1) (N := some 21) (v := ?_) (a' := ?_) #[t_,t_,f_,f_,f_,f_,f_,f_,f_,f_,f_,f_,f_,f_,f_,f_,f_,f_,f_,f_,f_,f_,f_,f_,f_,f_,f_,f_,f_,f_,f_,f_,f_,f_,f_] rfl rfl (any_of HT_.out (by kernel_rfl)) (fun _ _ _ h => h) (Or.inl ⟨by rfl, ?_⟩) ?_ ?_; rotate_left
              · intro w'; go_simp; with_reducible rfl
              rotate_left
              · simp only [Act.put, sib_, sc0_, sc1_, i64_w, i32_w]; rfl
              refine pure_ (i := 2) (N := some 22) (v := ?_) (a' := ?_) #[t_,t_,t_,f_,f_,f_,f_,f_,f_,f_,f_,f_,f_,f_,f_,f_,f_,f_,f_,f_,f_,f_,f_,f_,f_,f_,f_,f_,f_,f_,f_,f_,f_,f_,f_] rfl rfl (any_of HT_.out (by kernel_rfl)) (fun _ _ _ h => h) (Or.inl ⟨by rfl, ?_⟩) ?_ ?_; rotate_left
              · intro w'; go_simp; with_reducible rfl
              rotate_left
              · simp only [Act.put, sib_, sc0_, sc1_, i64_w, i32_w]; rfl
              refine pure_ (i := 3) (N := some 23) (v := ?_) (a' := ?_) #[t_,t_,t_,t_,f_,f_,f_,f_,f_,f_,f_,f_,f_,f_,f_,f_,f_,f_,f_,f_,f_,f_,f_,f_,f_,f_,f_,f_,f_,f_,f_,f_,f_,f_,f_] rfl rfl (any_of HT_.out (by kernel_rfl)) (fun _ _ _ h => h) (Or.inl ⟨by rfl, ?_⟩) ?_ ?_; rotate_left
              · intro w'; go_simp; with_reducible rfl
              rotate_left
              · simp only [Act.put, sib_, sc0_, sc1_, i64_w, i32_w]; rfl
              refine pure_ (i := 5) (N := some 25) (v := ?_) (a' := ?_) #[t_,t_,t_,t_,f_,t_,f_,f_,f_,f_,f_,f_,f_,f_,f_,f_,f_,f_,f_,f_,f_,f_,f_,f_,f_,f_,f_,f_,f_,f_,f_,f_,f_,f_,f_] rfl rfl (any_of HT_.out (by kernel_rfl)) (fun _ _ _ h => h) (Or.inl ⟨by rfl, ?_⟩) ?_ ?_; rotate_left
              · intro w'; go_simp; with_reducible rfl
              rotate_left
              · simp only [Act.put, sib_, sc0_, sc1_, i64_w, i32_w]; rfl
              refine pure_ (i := 6) (N := some 26) (v := ?_) (a' := ?_) #[t_,t_,t_,t_,f_,t_,t_,f_,f_,f_,f_,f_,f_,f_,f_,f_,f_,f_,f_,f_,f_,f_,f_,f_,f_,f_,f_,f_,f_,f_,f_,f_,f_,f_,f_] rfl rfl (any_of HT_.out (by kernel_rfl)) (fun _ _ _ h => h) (Or.inl ⟨by rfl, ?_⟩) ?_ ?_; rotate_left
              · intro w'; go_simp; with_reducible rfl
              rotate_left
              · simp only [Act.put, sib_, sc0_, sc1_, i64_w, i32_w]; rfl
              refine pure_ (i := 7) (N := some 27) (v := ?_) (a' := ?_) #[t_,t_,t_,t_,f_,t_,t_,t_,f_,f_,f_,f_,f_,f_,f_,f_,f_,f_,f_,f_,f_,f_,f_,f_,f_,f_,f_,f_,f_,f_,f_,f_,f_,f_,f_] rfl rfl (any_of HT_.out (by kernel_rfl)) (fun _ _ _ h => h) (Or.inl ⟨by rfl, ?_⟩) ?_ ?_; rotate_left
              · intro w'; go_simp; with_reducible rfl
              rotate_left
              · simp only [Act.put, sib_, sc0_, sc1_, i64_w, i32_w]; rfl
              refine pure_ (i := 8) (N := some 28) (v := ?_) (a' := ?_) #[t_,t_,t_,t_,f_,t_,t_,t_,t_,f_,f_,f_,f_,f_,f_,f_,f_,f_,f_,f_,f_,f_,f_,f_,f_,f_,f_,f_,f_,f_,f_,f_,f_,f_,f_] rfl rfl (any_of HT_.out (by kernel_rfl)) (fun _ _ _ h => h) (Or.inl ⟨by rfl, ?_⟩) ?_ ?_; rotate_left
              · intro w'; go_simp; with_reducible rfl
              rotate_left
              · simp only [Act.put, sib_, sc0_, sc1_, i64_w, i32_w]; rfl
              refine pure_ (i := 9) (N := some 29) (v := ?_) (a' := ?_) #[t_,t_,t_,t_,f_,t_,t_,t_,t_,t_,f_,f_,f_,f_,f_,f_,f_,f_,f_,f_,f_,f_,f_,f_,f_,f_,f_,f_,f_,f_,f_,f_,f_,f_,f_] rfl rfl (any_of HT_.out (by kernel_rfl)) (fun _ _ _ h => h) (Or.inl ⟨by rfl, ?_⟩) ?_ ?_; rotate_left
              · intro w'; go_simp; with_reducible rfl
              rotate_left
              · simp only [Act.put, sib_, sc0_, sc1_, i64_w, i32_w]; rfl
              refine take_ (i := 4) (N := some 24) (v := ?_) (a' := ?_) #[t_,t_,t_,t_,t_,t_,t_,t_,t_,t_,f_,f_,f_,f_,f_,f_,f_,f_,f_,f_,f_,f_,f_,f_,f_,f_,f_,f_,f_,f_,f_,f_,f_,f_,f_] rfl rfl (take_ofW HT_.out HW_.out (by kernel_rfl)) (fun _ _ _ h => h) (Or.inl ⟨by rfl, ?_⟩) hHeld ?_ ?_; rotate_left
              · rintro w' ⟨s0, s1, s2, s3, s4, s5, s6, s7, s8⟩
                go_simp
                with_reducible rfl
              rotate_left
              · simp only [Act.put, sib_, sc0_, sc1_, i64_w, i32_w]; rfl
              refine take_ (i := 10) (N := some 30) (v := ?_) (a' := ?_) #[t_,t_,t_,t_,t_,t_,t_,t_,t_,t_,t_,f_,f_,f_,f_,f_,f_,f_,f_,f_,f_,f_,f_,f_,f_,f_,f_,f_,f_,f_,f_,f_,f_,f_,f_] rfl rfl (take_ofW HT_.out HW_.out (by kernel_rfl)) (fun _ _ _ h => h) (Or.inl ⟨by rfl, ?_⟩) hHeld ?_ ?_; rotate_left
              · rintro w' ⟨s0, s1, s2, s3, s4, s5, s6, s7, s8⟩
                go_simp
                with_reducible rfl
              rotate_left
              · simp only [Act.put, sib_, sc0_, sc1_, i64_w, i32_w]; rfl
              refine pure_ (i := 11) (N := some 31) (v := ?_) (a' := ?_) #[t_,t_,t_,t_,t_,t_,t_,t_,t_,t_,t_,t_,f_,f_,f_,f_,f_,f_,f_,f_,f_,f_,f_,f_,f_,f_,f_,f_,f_,f_,f_,f_,f_,f_,f_] rfl rfl (any_of HT_.out (by kernel_rfl)) (fun _ _ _ h => h) (Or.inl ⟨by rfl, ?_⟩) ?_ ?_; rotate_left
              · intro w'; go_simp; with_reducible rfl
              rotate_left
              · simp only [Act.put, sib_, sc0_, sc1_, i64_w, i32_w]; rfl
              refine pure_ (i := 12) (N := some 32) (v := ?_) (a' := ?_) #[t_,t_,t_,t_,t_,t_,t_,t_,t_,t_,t_,t_,t_,f_,f_,f_,f_,f_,f_,f_,f_,f_,f_,f_,f_,f_,f_,f_,f_,f_,f_,f_,f_,f_,f_] rfl rfl (any_of HT_.out (by kernel_rfl)) (fun _ _ _ h => h) (Or.inl ⟨by rfl, ?_⟩) ?_ ?_; rotate_left
              · intro w'; go_simp; with_reducible rfl
              rotate_left
              · simp only [Act.put, sib_, sc0_, sc1_, i64_w, i32_w]; rfl
              refine pure_ (i := 13) (N := some 33) (v := ?_) (a' := ?_) #[t_,t_,t_,t_,t_,t_,t_,t_,t_,t_,t_,t_,t_,t_,f_,f_,f_,f_,f_,f_,f_,f_,f_,f_,f_,f_,f_,f_,f_,f_,f_,f_,f_,f_,f_] rfl rfl (any_of HT_.out (by kernel_rfl)) (fun _ _ _ h => h) (Or.inl ⟨by rfl, ?_⟩) ?_ ?_; rotate_left
              · intro w'; go_simp; with_reducible rfl
              rotate_left
              · simp only [Act.put, sib_, sc0_, sc1_, i64_w, i32_w]; rfl
              refine pure_ (i := 15) (N := some 35) (v := ?_) (a' := ?_) #[t_,t_,t_,t_,t_,t_,t_,t_,t_,t_,t_,t_,t_,t_,f_,t_,f_,f_,f_,f_,f_,f_,f_,f_,f_,f_,f_,f_,f_,f_,f_,f_,f_,f_,f_] rfl rfl (any_of HT_.out (by kernel_rfl)) (fun _ _ _ h => h) (Or.inl ⟨by rfl, ?_⟩) ?_ ?_; rotate_left
              · intro w'; go_simp; with_reducible rfl
              rotate_left
              · simp only [Act.put, sib_, sc0_, sc1_, i64_w, i32_w]; rfl
              refine pure_ (i := 16) (N := some 36) (v := ?_) (a' := ?_) #[t_,t_,t_,t_,t_,t_,t_,t_,t_,t_,t_,t_,t_,t_,f_,t_,t_,f_,f_,f_,f_,f_,f_,f_,f_,f_,f_,f_,f_,f_,f_,f_,f_,f_,f_] rfl rfl (any_of HT_.out (by kernel_rfl)) (fun _ _ _ h => h) (Or.inl ⟨by rfl, ?_⟩) ?_ ?_; rotate_left
              · intro w'; go_simp; with_reducible rfl
              rotate_left
              · simp only [Act.put, sib_, sc0_, sc1_, i64_w, i32_w]; rfl
              refine pure_ (i := 17) (N := some 37) (v := ?_) (a' := ?_) #[t_,t_,t_,t_,t_,t_,t_,t_,t_,t_,t_,t_,t_,t_,f_,t_,t_,t_,f_,f_,f_,f_,f_,f_,f_,f_,f_,f_,f_,f_,f_,f_,f_,f_,f_] rfl rfl (any_of HT_.out (by kernel_rfl)) (fun _ _ _ h => h) (Or.inl ⟨by rfl, ?_⟩) ?_ ?_; rotate_left
              · intro w'; go_simp; with_reducible rfl
              rotate_left
              · simp only [Act.put, sib_, sc0_, sc1_, i64_w, i32_w]; rfl
              refine pure_ (i := 18) (N := some 38) (v := ?_) (a' := ?_) #[t_,t_,t_,t_,t_,t_,t_,t_,t_,t_,t_,t_,t_,t_,f_,t_,t_,t_,t_,f_,f_,f_,f_,f_,f_,f_,f_,f_,f_,f_,f_,f_,f_,f_,f_] rfl rfl (any_of HT_.out (by kernel_rfl)) (fun _ _ _ h => h) (Or.inl ⟨by rfl, ?_⟩) ?_ ?_; rotate_left
              · intro w'; go_simp; with_reducible rfl
              rotate_left
              · simp only [Act.put, sib_, sc0_, sc1_, i64_w, i32_w]; rfl
              refine pure_ (i := 19) (N := some 39) (v := ?_) (a' := ?_) #[t_,t_,t_,t_,t_,t_,t_,t_,t_,t_,t_,t_,t_,t_,f_,t_,t_,t_,t_,t_,f_,f_,f_,f_,f_,f_,f_,f_,f_,f_,f_,f_,f_,f_,f_] rfl rfl (any_of HT_.out (by kernel_rfl)) (fun _ _ _ h => h) (Or.inl ⟨by rfl, ?_⟩) ?_ ?_; rotate_left
              · intro w'; go_simp; with_reducible rfl
              rotate_left
              · simp only [Act.put, sib_, sc0_, sc1_, i64_w, i32_w]; rfl
              refine take_ (i := 14) (N := some 34) (v := ?_) (a' := ?_) #[t_,t_,t_,t_,t_,t_,t_,t_,t_,t_,t_,t_,t_,t_,t_,t_,t_,t_,t_,t_,f_,f_,f_,f_,f_,f_,f_,f_,f_,f_,f_,f_,f_,f_,f_] rfl rfl (take_ofW HT_.out HW_.out (by kernel_rfl)) (fun _ _ _ h => h) (Or.inl ⟨by rfl, ?_⟩) hHeld ?_ ?_; rotate_left
              · rintro w' ⟨s0, s1, s2, s3, s4, s5, s6, s7, s8⟩
                go_simp
                with_reducible rfl
              rotate_left
              · simp only [Act.put, sib_, sc0_, sc1_, i64_w, i32_w]; rfl
              refine take_ (i := 20) (N := some 40) (v := ?_) (a' := ?_) #[t_,t_,t_,t_,t_,t_,t_,t_,t_,t_,t_,t_,t_,t_,t_,t_,t_,t_,t_,t_,t_,f_,f_,f_,f_,f_,f_,f_,f_,f_,f_,f_,f_,f_,f_] rfl rfl (take_ofW HT_.out HW_.out (by kernel_rfl)) (fun _ _ _ h => h) (Or.inl ⟨by rfl, ?_⟩) hHeld ?_ ?_; rotate_left
              · rintro w' ⟨s0, s1, s2, s3, s4, s5, s6, s7, s8⟩
                go_simp
                with_reducible rfl
              rotate_left
              · simp only [Act.put, sib_, sc0_, sc1_, i64_w, i32_w]; rfl
              refine pure_ (i := 21) (N := some 41) (v := ?_) (a' := ?_) #[t_,t_,t_,t_,t_,t_,t_,t_,t_,t_,t_,t_,t_,t_,t_,t_,t_,t_,t_,t_,t_,t_,f_,f_,f_,f_,f_,f_,f_,f_,f_,f_,f_,f_,f_] rfl rfl (any_of HT_.out (by kernel_rfl)) (fun _ _ _ h => h) (Or.inl ⟨by rfl, ?_⟩) ?_ ?_; rotate_left
              · intro w'; go_simp; with_reducible rfl
              rotate_left
              · simp only [Act.put, sib_, sc0_, sc1_, i64_w, i32_w]; rfl
              refine pure_ (i := 22) (N := some 42) (v := ?_) (a' := ?_) #[t_,t_,t_,t_,t_,t_,t_,t_,t_,t_,t_,t_,t_,t_,t_,t_,t_,t_,t_,t_,t_,t_,t_,f_,f_,f_,f_,f_,f_,f_,f_,f_,f_,f_,f_] rfl rfl (any_of HT_.out (by kernel_rfl)) (fun _ _ _ h => h) (Or.inl ⟨by rfl, ?_⟩) ?_ ?_; rotate_left
              · intro w'; go_simp; with_reducible rfl
              rotate_left
              · simp only [Act.put, sib_, sc0_, sc1_, i64_w, i32_w]; rfl
              refine pure_ (i := 23) (N := some 43) (v := undef) (a' := ?_) #[t_,t_,t_,t_,t_,t_,t_,t_,t_,t_,t_,t_,t_,t_,t_,t_,t_,t_,t_,t_,t_,t_,t_,t_,f_,f_,f_,f_,f_,f_,f_,f_,f_,f_,f_] rfl rfl (any_of HT_.out (by kernel_rfl)) (fun _ _ _ h => h) (Or.inr ⟨by rfl, rfl⟩) ?_ ?_; rotate_left
              · simp only [Act.put, sib_, sc0_, sc1_, i64_w, i32_w]; rfl
              refine pure_ (i := 24) (N := some 44) (v := undef) (a' := ?_) #[t_,t_,t_,t_,t_,t_,t_,t_,t_,t_,t_,t_,t_,t_,t_,t_,t_,t_,t_,t_,t_,t_,t_,t_,t_,f_,f_,f_,f_,f_,f_,f_,f_,f_,f_] rfl rfl (any_of HT_.out (by kernel_rfl)) (fun _ _ _ h => h) (Or.inr ⟨by rfl, rfl⟩) ?_ ?_; rotate_left
              · simp only [Act.put, sib_, sc0_, sc1_, i64_w, i32_w]; rfl
              refine pure_ (i := 25) (N := some 45) (v := undef) (a' := ?_) #[t_,t_,t_,t_,t_,t_,t_,t_,t_,t_,t_,t_,t_,t_,t_,t_,t_,t_,t_,t_,t_,t_,t_,t_,t_,t_,f_,f_,f_,f_,f_,f_,f_,f_,f_] rfl rfl (any_of HT_.out (by kernel_rfl)) (fun _ _ _ h => h) (Or.inr ⟨by rfl, rfl⟩) ?_ ?_; rotate_left
              · simp only [Act.put, sib_, sc0_, sc1_, i64_w, i32_w]; rfl
              refine pure_ (i := 26) (N := some 46) (v := undef) (a' := ?_) #[t_,t_,t_,t_,t_,t_,t_,t_,t_,t_,t_,t_,t_,t_,t_,t_,t_,t_,t_,t_,t_,t_,t_,t_,t_,t_,t_,f_,f_,f_,f_,f_,f_,f_,f_] rfl rfl (any_of HT_.out (by kernel_rfl)) (fun _ _ _ h => h) (Or.inr ⟨by rfl, rfl⟩) ?_ ?_; rotate_left
              · simp only [Act.put, sib_, sc0_, sc1_, i64_w, i32_w]; rfl
              refine pure_ (i := 27) (N := some 47) (v := undef) (a' := ?_) #[t_,t_,t_,t_,t_,t_,t_,t_,t_,t_,t_,t_,t_,t_,t_,t_,t_,t_,t_,t_,t_,t_,t_,t_,t_,t_,t_,t_,f_,f_,f_,f_,f_,f_,f_] rfl rfl (any_of HT_.out (by kernel_rfl)) (fun _ _ _ h => h) (Or.inr ⟨by rfl, rfl⟩) ?_ ?_; rotate_left
              · simp only [Act.put, sib_, sc0_, sc1_, i64_w, i32_w]; rfl
              refine pure_ (i := 28) (N := some 48) (v := undef) (a' := ?_) #[t_,t_,t_,t_,t_,t_,t_,t_,t_,t_,t_,t_,t_,t_,t_,t_,t_,t_,t_,t_,t_,t_,t_,t_,t_,t_,t_,t_,t_,f_,f_,f_,f_,f_,f_] rfl rfl (any_of HT_.out (by kernel_rfl)) (fun _ _ _ h => h) (Or.inr ⟨by rfl, rfl⟩) ?_ ?_; rotate_left
              · simp only [Act.put, sib_, sc0_, sc1_, i64_w, i32_w]; rfl
              refine pure_ (i := 29) (N := some 49) (v := undef) (a' := ?_) #[t_,t_,t_,t_,t_,t_,t_,t_,t_,t_,t_,t_,t_,t_,t_,t_,t_,t_,t_,t_,t_,t_,t_,t_,t_,t_,t_,t_,t_,t_,f_,f_,f_,f_,f_] rfl rfl (any_of HT_.out (by kernel_rfl)) (fun _ _ _ h => h) (Or.inr ⟨by rfl, rfl⟩) ?_ ?_; rotate_left
              · simp only [Act.put, sib_, sc0_, sc1_, i64_w, i32_w]; rfl
              refine pure_ (i := 30) (N := some 50) (v := undef) (a' := ?_) #[t_,t_,t_,t_,t_,t_,t_,t_,t_,t_,t_,t_,t_,t_,t_,t_,t_,t_,t_,t_,t_,t_,t_,t_,t_,t_,t_,t_,t_,t_,t_,f_,f_,f_,f_] rfl rfl (any_of HT_.out (by kernel_rfl)) (fun _ _ _ h => h) (Or.inr ⟨by rfl, rfl⟩) ?_ ?_; rotate_left
              · simp only [Act.put, sib_, sc0_, sc1_, i64_w, i32_w]; rfl
              refine pure_ (i := 31) (N := some 51) (v := undef) (a' := ?_) #[t_,t_,t_,t_,t_,t_,t_,t_,t_,t_,t_,t_,t_,t_,t_,t_,t_,t_,t_,t_,t_,t_,t_,t_,t_,t_,t_,t_,t_,t_,t_,t_,f_,f_,f_] rfl rfl (any_of HT_.out (by kernel_rfl)) (fun _ _ _ h => h) (Or.inr ⟨by rfl, rfl⟩) ?_ ?_; rotate_left
              · simp only [Act.put, sib_, sc0_, sc1_, i64_w, i32_w]; rfl
              refine pure_ (i := 32) (N := some 52) (v := ?_) (a' := ?_) #[t_,t_,t_,t_,t_,t_,t_,t_,t_,t_,t_,t_,t_,t_,t_,t_,t_,t_,t_,t_,t_,t_,t_,t_,t_,t_,t_,t_,t_,t_,t_,t_,t_,f_,f_] rfl rfl (any_of HT_.out (by kernel_rfl)) (fun _ _ _ h => h) (Or.inl ⟨by rfl, ?_⟩) ?_ ?_; rotate_left
              · intro w'; go_simp; with_reducible rfl
              rotate_left
              · simp only [Act.put, sib_, sc0_, sc1_, i64_w, i32_w]; rfl
              refine pure_ (i := 33) (N := some 53) (v := ?_) (a' := ?_) #[t_,t_,t_,t_,t_,t_,t_,t_,t_,t_,t_,t_,t_,t_,t_,t_,t_,t_,t_,t_,t_,t_,t_,t_,t_,t_,t_,t_,t_,t_,t_,t_,t_,t_,f_] rfl rfl (any_of HT_.out (by kernel_rfl)) (fun _ _ _ h => h) (Or.inl ⟨by rfl, ?_⟩) ?_ ?_; rotate_left
              · intro w'; go_simp; with_reducible rfl
              rotate_left
              · simp only [Act.put, sib_, sc0_, sc1_, i64_w, i32_w]; rfl
              refine pure_ (i := 34) (N := some 54) (v := ?_) (a' := ?_) #[t_,t_,t_,t_,t_,t_,t_,t_,t_,t_,t_,t_,t_,t_,t_,t_,t_,t_,t_,t_,t_,t_,t_,t_,t_,t_,t_,t_,t_,t_,t_,t_,t_,t_,t_] rfl rfl (any_of HT_.out (by kernel_rfl)) (fun _ _ _ h => h) (Or.inl ⟨by rfl, ?_⟩) ?_ ?_; rotate_left
              · intro w'; go_simp; with_reducible rfl
              rotate_left
              · simp only [Act.put, sib_, sc0_, sc1_, i64_w, i32_w]; rfl
              refine done_ (done_of HT_.out (by kernel_rfl)) ?_
              try go_wp2
              replace HO_3 := As_ (Kd.R_drew HO_3.out)
              replace BK126 := As_ (blk_drew BK126.out)
              replace BK128 := As_ (blk_drew BK128.out)
              replace HB := As_ (below_drew1 HB.out)
              have q49 : (x6_2 : Int) ≤ ((x3_1.length : Int) : Int) := of_decide_eq_true (by first | (with_reducible assumption) | assumption)
              obtain ⟨i049, hi049, _, hsz49, _⟩ := info_parts info87
              have hroom49 : x3_1.length ≤ co10 := (Kd.R_reads' HO_3.out).2.1
              have hC49 : Kd.C k87 _ (some ad129) x3_1.length x3_1 := (Kd.R_reads' HO_3.out).2.2
              have hcut49 := cut_to (P := Try.prog) 29 87 .i64 Try.underlying29 hi049 (some ad129) x3_1.length co10 x6_2 (of_decide_eq_true (by first | (with_reducible assumption) | assumption)) q49 hroom49
              have hr49 := Kd.C_take (m := (x6_2 : Int).toNat) hC49 (by omega)
              have hy49 : y158.length = (x6_2 : Int).toNat := (by rw [Ny158.out, List.length_take]; omega)
              rw [← Ny158.out] at hr49
              rw [← hy49] at hcut49
              have HR161 := As_ hr49
              have HC161 := As_ (show y158.length ≤ co10 from by omega)
              clear hr49 hC49 hroom49 hi049 hsz49
              have KY49 := As_ hy49
              clear hy49
              have KL49 := As_ (show (x6_2 : Int).toNat ≤ x3_1.length from by omega)
              replace q49 := eq_true q49
              refine start_ (n := 9) (S := fun w' => w'.cell? ⟨gb128, 0, none⟩ = some (.int .i64 ((rd_T87 l0_2 x14_1).f0)) ∧ w'.cell? ⟨gb128, 1, none⟩ = some (.int .i64 ((rd_T87 l0_2 x14_1).f1)) ∧ w'.cell? ⟨gb128, 2, none⟩ = some (.int .i64 ((rd_T87 l0_2 x14_1).f2))) (ds := []) #[f_,f_,f_,f_,f_,f_,f_,f_,f_] (by kernel_rfl) rfl rfl ⟨(blk_cell BK128.out 0).trans rfl, (blk_cell BK128.out 1).trans rfl, (blk_cell BK128.out 2).trans rfl⟩ (fun hHeld => ?_); refine with_tabW spec_stSides.tab8 spec_stSides.bits8 (fun HT_ HW_ => ?_)
              generalize w47.drew = w48 at HO_3 BK126 BK128 HB HR161 hHeld ⊢
              refine pure_ (i := 1) (N := some 58) (v := ?_) (a' := ?_) #[f_,t_,f_,f_,f_,f_,f_,f_,f_] rfl rfl (any_of HT_.out (by kernel_rfl)) (fun _ _ _ h => h) (Or.inl ⟨by rfl, ?_⟩) ?_ ?_; rotate_left
              · intro w'; go_simp; with_reducible rfl
              rotate_left
              · simp only [Act.put, sib_, sc0_, sc1_, i64_w, i32_w]; rfl
              refine pure_ (i := 2) (N := some 59) (v := ?_) (a' := ?_) #[f_,t_,t_,f_,f_,f_,f_,f_,f_] rfl rfl (any_of HT_.out (by kernel_rfl)) (fun _ _ _ h => h) (Or.inl ⟨by rfl, ?_⟩) ?_ ?_; rotate_left
              · intro w'; go_simp; with_reducible rfl
              rotate_left
              · simp only [Act.put, sib_, sc0_, sc1_, i64_w, i32_w]; rfl
              refine pure_ (i := 3) (N := some 60) (v := ?_) (a' := ?_) #[f_,t_,t_,t_,f_,f_,f_,f_,f_] rfl rfl (any_of HT_.out (by kernel_rfl)) (fun _ _ _ h => h) (Or.inl ⟨by rfl, ?_⟩) ?_ ?_; rotate_left
              · intro w'; go_simp; with_reducible rfl
              rotate_left
              · simp only [Act.put, sib_, sc0_, sc1_, i64_w, i32_w]; rfl
              refine take_ (i := 5) (N := some 62) (v := ?_) (a' := ?_) #[f_,t_,t_,t_,f_,t_,f_,f_,f_] rfl rfl (take_ofW HT_.out HW_.out (by kernel_rfl)) (fun _ _ _ h => h) (Or.inl ⟨by rfl, ?_⟩) hHeld ?_ ?_; rotate_left
              · rintro w' ⟨s0, s1, s2⟩
                go_simp
                with_reducible rfl
              rotate_left
              · simp only [Act.put, sib_, sc0_, sc1_, i64_w, i32_w]; rfl
              refine join_ (σ := Value × Value × Value) 2 #[t_,t_,t_,t_,t_,t_,t_,f_,f_] (fun s_ => [(57, s_.1), (61, s_.2.1), (63, s_.2.2)]) (fun s_ w' => (w'.cell? ⟨gb128, 0, none⟩ = some (.int .i64 ((rd_T87 l0_2 x14_1).f0)) ∧ w'.cell? ⟨gb128, 1, none⟩ = some (.int .i64 ((rd_T87 l0_2 x14_1).f1)) ∧ w'.cell? ⟨gb128, 2, none⟩ = some (.int .i64 ((rd_T87 l0_2 x14_1).f2))) ∧ (Kd.R k87 87 w' w.heap.size (fun k_ => some k_ ≠ (s_.2.2 : Value).ownBlock ∧ some k_ ≠ (.slice (some ad129) x3_1.length co10 : Value).ownBlock ∧ k_ ≠ gb128) s_.2.1 y162) ∧ (Kd.R k87 87 w' w.heap.size (fun k_ => some k_ ≠ (s_.2.1 : Value).ownBlock ∧ some k_ ≠ (.slice (some ad129) x3_1.length co10 : Value).ownBlock ∧ k_ ≠ gb128) s_.2.2 y165) ∧ (Kd.R k87 87 w' w.heap.size (fun k_ => some k_ ≠ (s_.2.1 : Value).ownBlock ∧ some k_ ≠ (s_.2.2 : Value).ownBlock ∧ k_ ≠ gb128) (.slice (some ad129) x3_1.length co10) x3_1) ∧ (w'.heap[gb126]? = some (.cells #[.int .i64 a0_0, .int .i64 a0_1, .slice (some ad127) l0_2.length c0_2] 31 (0, 0))) ∧ (w'.heap[gb128]? = some (.cells #[.int .i64 ((rd_T87 l0_2 x14_1).f0), .int .i64 ((rd_T87 l0_2 x14_1).f1), .int .i64 ((rd_T87 l0_2 x14_1).f2)] 87 (0, 0))) ∧ (Below w.heap.size w w')) ?_ ?_; rotate_left
              · intro hCont
                refine two_ (i := 0) (j := 6) (Ni := some 57) (Nj := some 63) #[t_,t_,t_,t_,f_,t_,f_,f_,f_] #[f_,t_,t_,t_,f_,t_,t_,f_,f_] rfl rfl rfl rfl (two_of HT_.out (by kernel_rfl)) (by decide) (by decide) (fun K hK => ?_) (fun K hK => ?_)
                · skip
                  refine Kd.R_lit_step k87 _ 87 ?hg (N := 57) ?hd (xs := ([] : List (S87))) (inner := []) (ok := fun _ => True) (okp := fun _ => True) ?hr ?hp (fun _ hk => hk) trivial (Below.refl _ _) (Nat.le_refl _) (by simp) ?_; (case hd => rfl); (case hg => rfl); (case hr => first | (go_simp; done) | (go_simp; rfl)); (case hp => exact (Reps.none _ _))
                  intro v156 w50 ho51 hb hg_ hnew_; clear hg_ hnew_
                  (first | rw [← Ny155.out] at ho51 | (simp only [Int.reduceToNat] at ho51; rw [← Ny155.out] at ho51))
                  have HO157 := As_ (Kd.R_lower (Kd.R_newB (Kd.R_new' ho51 (Kd.R_lt (by (with_reducible repeat (first | apply Kd.R_alloc | apply Kd.R_drewN | apply Kd.R_drew)); exact HO_3.out))) (g := gb128) (o := .cells #[.int .i64 ((rd_T87 l0_2 x14_1).f0), .int .i64 ((rd_T87 l0_2 x14_1).f1), .int .i64 ((rd_T87 l0_2 x14_1).f2)] 87 (0, 0)) BK128.out) (below_size (by repeat (first | (with_reducible first | exact HB.out | apply below_alloc | apply pw_below_drewN | apply below_drew1 | refine below_setA ?_ (by assumption)) | exact HB.out))))
                  replace HO_3 := As_ (Kd.R_elder' (by (with_reducible repeat (first | apply Kd.R_alloc | apply Kd.R_drewN | apply Kd.R_drew)); exact HO_3.out) (Kd.R_base ho51) hb)
                  replace BK126 := As_ (blk_b hb BK126.out)
                  replace BK128 := As_ (blk_b hb BK128.out)
                  replace HR161 := As_ (Kd.C_below (by repeat (first | (with_reducible exact HR161.out) | (with_reducible refine Kd.C_alloc ?_ _) | (with_reducible refine Kd.C_drewN ?_ _) | (with_reducible refine Kd.C_drew ?_) | exact HR161.out)) hb)
                  replace HB := As_ (below_step (by repeat (first | (with_reducible first | exact HB.out | apply below_alloc | apply pw_below_drewN | apply below_drew1 | refine below_setA ?_ (by assumption)) | exact HB.out)) hb); clear hb ho51
                  refine hK.out _ _ ⟨(blk_cell BK128.out 0).trans rfl, (blk_cell BK128.out 1).trans rfl, (blk_cell BK128.out 2).trans rfl⟩ (fun hHeld => ?_); clear hK K
                  refine norm_ (a' := ?_) ?_ ?_; rotate_left
                  · show Act.put _ (some 57) _ = _
                    simp only [Act.put, sib_, sc0_, sc1_, i64_w, i32_w]
                    rfl
                  refine two_ (i := 4) (j := 6) (Ni := some 61) (Nj := some 63) #[t_,t_,t_,t_,t_,t_,f_,f_,f_] #[t_,t_,t_,t_,f_,t_,t_,f_,f_] rfl rfl rfl rfl (two_of HT_.out (by kernel_rfl)) (by decide) (by decide) (fun K hK => ?_) (fun K hK => ?_)
                  · skip
                    refine Kd.R_append_rows_step k87 (w0 := w) w.heap.size (by rfl) (.tmp 57) (.tmp 60) 29 87 (.agg #[(.int .i64 0), (.int .i64 0), (.int .i64 0)]) 24 rfl Try.underlying29 info87 rfl (by decide) (by omega) v156 y155 y158 _ _ _ (fun k_ => some k_ ≠ (.slice (some ad129) x3_1.length co10 : Value).ownBlock ∧ k_ ≠ gb128) (fun _ => False) rfl rfl ?aO ?aR (fun _ _ h => h) (fun _ h => h.elim) ?aF ?aB ?aS ?aL ?_
                    (case aR => repeat (first | exact (by repeat (first | (with_reducible exact HR161.out) | (with_reducible refine Kd.C_alloc ?_ _) | (with_reducible refine Kd.C_drewN ?_ _) | (with_reducible refine Kd.C_drew ?_) | exact HR161.out)) | (with_reducible refine Kd.C_alloc ?_ _) | (with_reducible refine Kd.C_drewN ?_ _) | (with_reducible refine Kd.C_drew ?_)))
                    (case aB => exact (by repeat (first | (with_reducible first | exact HB.out | apply below_alloc | apply pw_below_drewN | apply below_drew1 | refine below_setA ?_ (by assumption)) | exact HB.out)))
                    (case aF => exact (fun k_ hk => ⟨Kd.fresh' (Kd.R_lt (by (with_reducible repeat (first | apply Kd.R_alloc | apply Kd.R_drewN | apply Kd.R_drew)); exact HO_3.out)) k_ hk, Kd.freshB (g := gb128) (o := .cells #[.int .i64 ((rd_T87 l0_2 x14_1).f0), .int .i64 ((rd_T87 l0_2 x14_1).f1), .int .i64 ((rd_T87 l0_2 x14_1).f2)] 87 (0, 0)) BK128.out k_ hk⟩))
                    (case aO => exact (by (with_reducible repeat (first | apply Kd.R_alloc | apply Kd.R_drewN | apply Kd.R_drew)); exact Kd.R_mono HO157.out (fun _ hk => ⟨hk.1.2, hk.2⟩)))
                    (case aS => exact (below_size (by repeat (first | (with_reducible first | exact HB.out | apply below_alloc | apply pw_below_drewN | apply below_drew1 | refine below_setA ?_ (by assumption)) | exact HB.out))))
                    (case aL => have := LMc42.out; omega)
                    intro v163 w52 ho hb hg hat
                    rw [← Ny162.out] at ho
                    have n0_ := As_ (Kd.R_after (ok := (fun k_ => k_ ≠ gb128)) (by (with_reducible repeat (first | apply Kd.R_alloc | apply Kd.R_drewN | apply Kd.R_drew)); exact HO_3.out) hg hat)
                    have n1_ := As_ (blk_grown (g := gb126) (o := .cells #[.int .i64 a0_0, .int .i64 a0_1, .slice (some ad127) l0_2.length c0_2] 31 (0, 0)) BK126.out hg (Kd.R_ne HO157.out BK126.out (by decide)))
                    have n2_ := As_ (blk_grown (g := gb128) (o := .cells #[.int .i64 ((rd_T87 l0_2 x14_1).f0), .int .i64 ((rd_T87 l0_2 x14_1).f1), .int .i64 ((rd_T87 l0_2 x14_1).f2)] 87 (0, 0)) BK128.out hg (Kd.R_away HO157.out (fun _ hk => hk.2)))
                    have n3_ := As_ (hb)
                    have n4_ := As_ ((show Kd.C k87 w52 (some ad129) y158.length y158 from by rw [Ny158.out]; exact Kd.C_take (m := (x6_2 : Int).toNat) ((Kd.R_reads' (Kd.R_after (ok := (fun k_ => k_ ≠ gb128)) (by (with_reducible repeat (first | apply Kd.R_alloc | apply Kd.R_drewN | apply Kd.R_drew)); exact HO_3.out) hg hat)).2.2) KL49.out))
                    have n5_ := As_ (ho)
                    clear HO_3; clear BK126; clear BK128; clear HB; clear HR161; clear HO157
                    have HO_3 := n0_
                    have BK126 := n1_
                    have BK128 := n2_
                    have HB := n3_
                    have HR161 := n4_
                    have HO164 := n5_
                    clear n0_ n1_ n2_ n3_ n4_ n5_; clear ho hb hg hat
                    refine hK.out _ _ ⟨(blk_cell BK128.out 0).trans rfl, (blk_cell BK128.out 1).trans rfl, (blk_cell BK128.out 2).trans rfl⟩ (fun hHeld => ?_); clear hK K
                    refine norm_ (a' := ?_) ?_ ?_; rotate_left
                    · show Act.put _ (some 61) _ = _
                      simp only [Act.put, sib_, sc0_, sc1_, i64_w, i32_w]
                      rfl
                    refine one_ (i := 6) (N := some 63) #[t_,t_,t_,t_,t_,t_,t_,f_,f_] rfl rfl (one_of HT_.out (by kernel_rfl)) (by decide) (fun K hK => ?_)
                    refine Kd.R_lit_step k87 _ 87 ?hg (N := 63) ?hd (xs := ([(⟨((rd_T87 l0_2 x14_1).f0), ((rd_T87 l0_2 x14_1).f1), ((rd_T87 l0_2 x14_1).f2)⟩ : S87)] : List (S87))) (inner := [.int .i64 ((rd_T87 l0_2 x14_1).f0), .int .i64 ((rd_T87 l0_2 x14_1).f1), .int .i64 ((rd_T87 l0_2 x14_1).f2)]) (ok := fun _ => True) (okp := fun _ => True) ?hr ?hp (fun _ hk => hk) trivial (Below.refl _ _) (Nat.le_refl _) (by simp) ?_; (case hd => rfl); (case hg => rfl); (case hr => first | (go_simp; done) | (go_simp; rfl)); (case hp => exact (Reps.c3 (show Kd.M k87 _ _ _ (⟨((rd_T87 l0_2 x14_1).f0), ((rd_T87 l0_2 x14_1).f1), ((rd_T87 l0_2 x14_1).f2)⟩ : S87) [.int .i64 ((rd_T87 l0_2 x14_1).f0), .int .i64 ((rd_T87 l0_2 x14_1).f1), .int .i64 ((rd_T87 l0_2 x14_1).f2)] from (k87_mkM _ _ _ (⟨((rd_T87 l0_2 x14_1).f0), ((rd_T87 l0_2 x14_1).f1), ((rd_T87 l0_2 x14_1).f2)⟩ : S87) )) (Reps.none _ _)))
                    intro v166 w53 ho54 hb hg_ hnew_; clear hg_ hnew_
                    (first | rw [← Ny165.out] at ho54 | (simp only [Int.reduceToNat] at ho54; rw [← Ny165.out] at ho54))
                    have HO167 := As_ (Kd.R_lower (Kd.R_newB (Kd.R_new' (Kd.R_new' ho54 (Kd.R_lt (by (with_reducible repeat (first | apply Kd.R_alloc | apply Kd.R_drewN | apply Kd.R_drew)); exact HO_3.out))) (Kd.R_lt (by (with_reducible repeat (first | apply Kd.R_alloc | apply Kd.R_drewN | apply Kd.R_drew)); exact HO164.out))) (g := gb128) (o := .cells #[.int .i64 ((rd_T87 l0_2 x14_1).f0), .int .i64 ((rd_T87 l0_2 x14_1).f1), .int .i64 ((rd_T87 l0_2 x14_1).f2)] 87 (0, 0)) BK128.out) (below_size (by repeat (first | (with_reducible first | exact HB.out | apply below_alloc | apply pw_below_drewN | apply below_drew1 | refine below_setA ?_ (by assumption)) | exact HB.out))))
                    replace HO_3 := As_ (Kd.R_elder' (by (with_reducible repeat (first | apply Kd.R_alloc | apply Kd.R_drewN | apply Kd.R_drew)); exact HO_3.out) (Kd.R_base ho54) hb)
                    replace HO164 := As_ (Kd.R_elder' (by (with_reducible repeat (first | apply Kd.R_alloc | apply Kd.R_drewN | apply Kd.R_drew)); exact HO164.out) (Kd.R_base ho54) hb)
                    replace BK126 := As_ (blk_b hb BK126.out)
                    replace BK128 := As_ (blk_b hb BK128.out)
                    replace HR161 := As_ (Kd.C_below (by repeat (first | (with_reducible exact HR161.out) | (with_reducible refine Kd.C_alloc ?_ _) | (with_reducible refine Kd.C_drewN ?_ _) | (with_reducible refine Kd.C_drew ?_) | exact HR161.out)) hb)
                    replace HB := As_ (below_step (by repeat (first | (with_reducible first | exact HB.out | apply below_alloc | apply pw_below_drewN | apply below_drew1 | refine below_setA ?_ (by assumption)) | exact HB.out)) hb); clear hb ho54
                    refine hK.out _ _ ⟨(blk_cell BK128.out 0).trans rfl, (blk_cell BK128.out 1).trans rfl, (blk_cell BK128.out 2).trans rfl⟩ (fun hHeld => ?_); clear hK K
                    refine norm_ (a' := ?_) ?_ ?_; rotate_left
                    · show Act.put _ (some 63) _ = _
                      simp only [Act.put, sib_, sc0_, sc1_, i64_w, i32_w]
                      rfl
                    exact norm_ (by simp only [putAll, Act.put, sib_, sc0_, sc1_]) (hCont (v156, v163, v166) _ ⟨hHeld, (by (with_reducible repeat (first | apply Kd.R_alloc | apply Kd.R_drewN | apply Kd.R_drew)); exact Kd.R_mono HO164.out (fun _ hk => ⟨hk.2, ⟨hk.1.1, hk.1.2⟩⟩)), (by (with_reducible repeat (first | apply Kd.R_alloc | apply Kd.R_drewN | apply Kd.R_drew)); exact Kd.R_mono HO167.out (fun _ hk => ⟨hk.1.2, ⟨hk.1.1.2, hk.2⟩⟩)), (by (with_reducible repeat (first | apply Kd.R_alloc | apply Kd.R_drewN | apply Kd.R_drew)); exact Kd.R_mono HO_3.out (fun _ hk => ⟨hk.1.2, ⟨hk.2, hk.1.1⟩⟩)), BK126.out, BK128.out, (by repeat (first | (with_reducible first | exact HB.out | apply below_alloc | apply pw_below_drewN | apply below_drew1 | refine below_setA ?_ (by assumption)) | exact HB.out))⟩)
                  · skip
                    refine Kd.R_lit_step k87 _ 87 ?hg (N := 63) ?hd (xs := ([(⟨((rd_T87 l0_2 x14_1).f0), ((rd_T87 l0_2 x14_1).f1), ((rd_T87 l0_2 x14_1).f2)⟩ : S87)] : List (S87))) (inner := [.int .i64 ((rd_T87 l0_2 x14_1).f0), .int .i64 ((rd_T87 l0_2 x14_1).f1), .int .i64 ((rd_T87 l0_2 x14_1).f2)]) (ok := fun _ => True) (okp := fun _ => True) ?hr ?hp (fun _ hk => hk) trivial (Below.refl _ _) (Nat.le_refl _) (by simp) ?_; (case hd => rfl); (case hg => rfl); (case hr => first | (go_simp; done) | (go_simp; rfl)); (case hp => exact (Reps.c3 (show Kd.M k87 _ _ _ (⟨((rd_T87 l0_2 x14_1).f0), ((rd_T87 l0_2 x14_1).f1), ((rd_T87 l0_2 x14_1).f2)⟩ : S87) [.int .i64 ((rd_T87 l0_2 x14_1).f0), .int .i64 ((rd_T87 l0_2 x14_1).f1), .int .i64 ((rd_T87 l0_2 x14_1).f2)] from (k87_mkM _ _ _ (⟨((rd_T87 l0_2 x14_1).f0), ((rd_T87 l0_2 x14_1).f1), ((rd_T87 l0_2 x14_1).f2)⟩ : S87) )) (Reps.none _ _)))
                    intro v166 w52 ho53 hb hg_ hnew_; clear hg_ hnew_
                    (first | rw [← Ny165.out] at ho53 | (simp only [Int.reduceToNat] at ho53; rw [← Ny165.out] at ho53))
                    have HO167 := As_ (Kd.R_lower (Kd.R_newB (Kd.R_new' (Kd.R_new' ho53 (Kd.R_lt (by (with_reducible repeat (first | apply Kd.R_alloc | apply Kd.R_drewN | apply Kd.R_drew)); exact HO_3.out))) (Kd.R_lt (by (with_reducible repeat (first | apply Kd.R_alloc | apply Kd.R_drewN | apply Kd.R_drew)); exact HO157.out))) (g := gb128) (o := .cells #[.int .i64 ((rd_T87 l0_2 x14_1).f0), .int .i64 ((rd_T87 l0_2 x14_1).f1), .int .i64 ((rd_T87 l0_2 x14_1).f2)] 87 (0, 0)) BK128.out) (below_size (by repeat (first | (with_reducible first | exact HB.out | apply below_alloc | apply pw_below_drewN | apply below_drew1 | refine below_setA ?_ (by assumption)) | exact HB.out))))
                    replace HO_3 := As_ (Kd.R_elder' (by (with_reducible repeat (first | apply Kd.R_alloc | apply Kd.R_drewN | apply Kd.R_drew)); exact HO_3.out) (Kd.R_base ho53) hb)
                    replace HO157 := As_ (Kd.R_elder' (by (with_reducible repeat (first | apply Kd.R_alloc | apply Kd.R_drewN | apply Kd.R_drew)); exact HO157.out) (Kd.R_base ho53) hb)
                    replace BK126 := As_ (blk_b hb BK126.out)
                    replace BK128 := As_ (blk_b hb BK128.out)
                    replace HR161 := As_ (Kd.C_below (by repeat (first | (with_reducible exact HR161.out) | (with_reducible refine Kd.C_alloc ?_ _) | (with_reducible refine Kd.C_drewN ?_ _) | (with_reducible refine Kd.C_drew ?_) | exact HR161.out)) hb)
                    replace HB := As_ (below_step (by repeat (first | (with_reducible first | exact HB.out | apply below_alloc | apply pw_below_drewN | apply below_drew1 | refine below_setA ?_ (by assumption)) | exact HB.out)) hb); clear hb ho53
                    refine hK.out _ _ ⟨(blk_cell BK128.out 0).trans rfl, (blk_cell BK128.out 1).trans rfl, (blk_cell BK128.out 2).trans rfl⟩ (fun hHeld => ?_); clear hK K
                    refine norm_ (a' := ?_) ?_ ?_; rotate_left
                    · show Act.put _ (some 63) _ = _
                      simp only [Act.put, sib_, sc0_, sc1_, i64_w, i32_w]
                      rfl
                    refine one_ (i := 4) (N := some 61) #[t_,t_,t_,t_,t_,t_,t_,f_,f_] rfl rfl (one_of HT_.out (by kernel_rfl)) (by decide) (fun K hK => ?_)
                    refine Kd.R_append_rows_step k87 (w0 := w) w.heap.size (by rfl) (.tmp 57) (.tmp 60) 29 87 (.agg #[(.int .i64 0), (.int .i64 0), (.int .i64 0)]) 24 rfl Try.underlying29 info87 rfl (by decide) (by omega) v156 y155 y158 _ _ _ (fun k_ => some k_ ≠ (.slice (some ad129) x3_1.length co10 : Value).ownBlock ∧ some k_ ≠ (v166 : Value).ownBlock ∧ k_ ≠ gb128) (fun _ => False) rfl rfl ?aO ?aR (fun _ _ h => h) (fun _ h => h.elim) ?aF ?aB ?aS ?aL ?_
                    (case aR => repeat (first | exact (by repeat (first | (with_reducible exact HR161.out) | (with_reducible refine Kd.C_alloc ?_ _) | (with_reducible refine Kd.C_drewN ?_ _) | (with_reducible refine Kd.C_drew ?_) | exact HR161.out)) | (with_reducible refine Kd.C_alloc ?_ _) | (with_reducible refine Kd.C_drewN ?_ _) | (with_reducible refine Kd.C_drew ?_)))
                    (case aB => exact (by repeat (first | (with_reducible first | exact HB.out | apply below_alloc | apply pw_below_drewN | apply below_drew1 | refine below_setA ?_ (by assumption)) | exact HB.out)))
                    (case aF => exact (fun k_ hk => ⟨Kd.fresh' (Kd.R_lt (by (with_reducible repeat (first | apply Kd.R_alloc | apply Kd.R_drewN | apply Kd.R_drew)); exact HO_3.out)) k_ hk, Kd.fresh' (Kd.R_lt (by (with_reducible repeat (first | apply Kd.R_alloc | apply Kd.R_drewN | apply Kd.R_drew)); exact HO167.out)) k_ hk, Kd.freshB (g := gb128) (o := .cells #[.int .i64 ((rd_T87 l0_2 x14_1).f0), .int .i64 ((rd_T87 l0_2 x14_1).f1), .int .i64 ((rd_T87 l0_2 x14_1).f2)] 87 (0, 0)) BK128.out k_ hk⟩))
                    (case aO => exact (by (with_reducible repeat (first | apply Kd.R_alloc | apply Kd.R_drewN | apply Kd.R_drew)); exact Kd.R_mono HO157.out (fun _ hk => ⟨hk.1.1.2, ⟨hk.2, hk.1.2⟩⟩)))
                    (case aS => exact (below_size (by repeat (first | (with_reducible first | exact HB.out | apply below_alloc | apply pw_below_drewN | apply below_drew1 | refine below_setA ?_ (by assumption)) | exact HB.out))))
                    (case aL => have := LMc42.out; omega)
                    intro v163 w54 ho hb hg hat
                    rw [← Ny162.out] at ho
                    have n0_ := As_ (Kd.R_after (ok := (fun k_ => some k_ ≠ (v166 : Value).ownBlock ∧ k_ ≠ gb128)) (by (with_reducible repeat (first | apply Kd.R_alloc | apply Kd.R_drewN | apply Kd.R_drew)); exact Kd.R_mono HO_3.out (fun _ hk => ⟨⟨hk.2, hk.1.1⟩, hk.1.2⟩)) hg hat)
                    have n1_ := As_ (blk_grown (g := gb126) (o := .cells #[.int .i64 a0_0, .int .i64 a0_1, .slice (some ad127) l0_2.length c0_2] 31 (0, 0)) BK126.out hg (Kd.R_ne HO157.out BK126.out (by decide)))
                    have n2_ := As_ (blk_grown (g := gb128) (o := .cells #[.int .i64 ((rd_T87 l0_2 x14_1).f0), .int .i64 ((rd_T87 l0_2 x14_1).f1), .int .i64 ((rd_T87 l0_2 x14_1).f2)] 87 (0, 0)) BK128.out hg (Kd.R_away HO157.out (fun _ hk => hk.1.2)))
                    have n3_ := As_ (Kd.R_after (ok := (fun k_ => some k_ ≠ (.slice (some ad129) x3_1.length co10 : Value).ownBlock ∧ k_ ≠ gb128)) (by (with_reducible repeat (first | apply Kd.R_alloc | apply Kd.R_drewN | apply Kd.R_drew)); exact Kd.R_mono HO167.out (fun _ hk => ⟨⟨hk.1.1.2, hk.2⟩, hk.1.2⟩)) hg hat)
                    have n4_ := As_ (hb)
                    have n5_ := As_ ((show Kd.C k87 w54 (some ad129) y158.length y158 from by rw [Ny158.out]; exact Kd.C_take (m := (x6_2 : Int).toNat) ((Kd.R_reads' (Kd.R_after (ok := (fun k_ => some k_ ≠ (v166 : Value).ownBlock ∧ k_ ≠ gb128)) (by (with_reducible repeat (first | apply Kd.R_alloc | apply Kd.R_drewN | apply Kd.R_drew)); exact Kd.R_mono HO_3.out (fun _ hk => ⟨⟨hk.2, hk.1.1⟩, hk.1.2⟩)) hg hat)).2.2) KL49.out))
                    have n6_ := As_ (ho)
                    clear HO_3; clear BK126; clear BK128; clear HO167; clear HB; clear HR161; clear HO157
                    have HO_3 := n0_
                    have BK126 := n1_
                    have BK128 := n2_
                    have HO167 := n3_
                    have HB := n4_
                    have HR161 := n5_
                    have HO164 := n6_
                    clear n0_ n1_ n2_ n3_ n4_ n5_ n6_; clear ho hb hg hat
                    refine hK.out _ _ ⟨(blk_cell BK128.out 0).trans rfl, (blk_cell BK128.out 1).trans rfl, (blk_cell BK128.out 2).trans rfl⟩ (fun hHeld => ?_); clear hK K
                    refine norm_ (a' := ?_) ?_ ?_; rotate_left
                    · show Act.put _ (some 61) _ = _
                      simp only [Act.put, sib_, sc0_, sc1_, i64_w, i32_w]
                      rfl
                    exact norm_ (by simp only [putAll, Act.put, sib_, sc0_, sc1_]) (hCont (v156, v163, v166) _ ⟨hHeld, (by (with_reducible repeat (first | apply Kd.R_alloc | apply Kd.R_drewN | apply Kd.R_drew)); exact Kd.R_mono HO164.out (fun _ hk => ⟨hk.2.1, ⟨hk.1, hk.2.2⟩⟩)), (by (with_reducible repeat (first | apply Kd.R_alloc | apply Kd.R_drewN | apply Kd.R_drew)); exact Kd.R_mono HO167.out (fun _ hk => ⟨hk.2, ⟨hk.1.1, hk.1.2⟩⟩)), (by (with_reducible repeat (first | apply Kd.R_alloc | apply Kd.R_drewN | apply Kd.R_drew)); exact Kd.R_mono HO_3.out (fun _ hk => ⟨hk.2, ⟨hk.1.1, hk.1.2⟩⟩)), BK126.out, BK128.out, (by repeat (first | (with_reducible first | exact HB.out | apply below_alloc | apply pw_below_drewN | apply below_drew1 | refine below_setA ?_ (by assumption)) | exact HB.out))⟩)
                · skip
                  refine Kd.R_lit_step k87 _ 87 ?hg (N := 63) ?hd (xs := ([(⟨((rd_T87 l0_2 x14_1).f0), ((rd_T87 l0_2 x14_1).f1), ((rd_T87 l0_2 x14_1).f2)⟩ : S87)] : List (S87))) (inner := [.int .i64 ((rd_T87 l0_2 x14_1).f0), .int .i64 ((rd_T87 l0_2 x14_1).f1), .int .i64 ((rd_T87 l0_2 x14_1).f2)]) (ok := fun _ => True) (okp := fun _ => True) ?hr ?hp (fun _ hk => hk) trivial (Below.refl _ _) (Nat.le_refl _) (by simp) ?_; (case hd => rfl); (case hg => rfl); (case hr => first | (go_simp; done) | (go_simp; rfl)); (case hp => exact (Reps.c3 (show Kd.M k87 _ _ _ (⟨((rd_T87 l0_2 x14_1).f0), ((rd_T87 l0_2 x14_1).f1), ((rd_T87 l0_2 x14_1).f2)⟩ : S87) [.int .i64 ((rd_T87 l0_2 x14_1).f0), .int .i64 ((rd_T87 l0_2 x14_1).f1), .int .i64 ((rd_T87 l0_2 x14_1).f2)] from (k87_mkM _ _ _ (⟨((rd_T87 l0_2 x14_1).f0), ((rd_T87 l0_2 x14_1).f1), ((rd_T87 l0_2 x14_1).f2)⟩ : S87) )) (Reps.none _ _)))
                  intro v166 w50 ho51 hb hg_ hnew_; clear hg_ hnew_
                  (first | rw [← Ny165.out] at ho51 | (simp only [Int.reduceToNat] at ho51; rw [← Ny165.out] at ho51))
                  have HO167 := As_ (Kd.R_lower (Kd.R_newB (Kd.R_new' ho51 (Kd.R_lt (by (with_reducible repeat (first | apply Kd.R_alloc | apply Kd.R_drewN | apply Kd.R_drew)); exact HO_3.out))) (g := gb128) (o := .cells #[.int .i64 ((rd_T87 l0_2 x14_1).f0), .int .i64 ((rd_T87 l0_2 x14_1).f1), .int .i64 ((rd_T87 l0_2 x14_1).f2)] 87 (0, 0)) BK128.out) (below_size (by repeat (first | (with_reducible first | exact HB.out | apply below_alloc | apply pw_below_drewN | apply below_drew1 | refine below_setA ?_ (by assumption)) | exact HB.out))))
                  replace HO_3 := As_ (Kd.R_elder' (by (with_reducible repeat (first | apply Kd.R_alloc | apply Kd.R_drewN | apply Kd.R_drew)); exact HO_3.out) (Kd.R_base ho51) hb)
                  replace BK126 := As_ (blk_b hb BK126.out)
                  replace BK128 := As_ (blk_b hb BK128.out)
                  replace HR161 := As_ (Kd.C_below (by repeat (first | (with_reducible exact HR161.out) | (with_reducible refine Kd.C_alloc ?_ _) | (with_reducible refine Kd.C_drewN ?_ _) | (with_reducible refine Kd.C_drew ?_) | exact HR161.out)) hb)
                  replace HB := As_ (below_step (by repeat (first | (with_reducible first | exact HB.out | apply below_alloc | apply pw_below_drewN | apply below_drew1 | refine below_setA ?_ (by assumption)) | exact HB.out)) hb); clear hb ho51
                  refine hK.out _ _ ⟨(blk_cell BK128.out 0).trans rfl, (blk_cell BK128.out 1).trans rfl, (blk_cell BK128.out 2).trans rfl⟩ (fun hHeld => ?_); clear hK K
                  refine norm_ (a' := ?_) ?_ ?_; rotate_left
                  · show Act.put _ (some 63) _ = _
                    simp only [Act.put, sib_, sc0_, sc1_, i64_w, i32_w]
                    rfl
                  refine one_ (i := 0) (N := some 57) #[t_,t_,t_,t_,f_,t_,t_,f_,f_] rfl rfl (one_of HT_.out (by kernel_rfl)) (by decide) (fun K hK => ?_)
                  refine Kd.R_lit_step k87 _ 87 ?hg (N := 57) ?hd (xs := ([] : List (S87))) (inner := []) (ok := fun _ => True) (okp := fun _ => True) ?hr ?hp (fun _ hk => hk) trivial (Below.refl _ _) (Nat.le_refl _) (by simp) ?_; (case hd => rfl); (case hg => rfl); (case hr => first | (go_simp; done) | (go_simp; rfl)); (case hp => exact (Reps.none _ _))
                  intro v156 w52 ho53 hb hg_ hnew_; clear hg_ hnew_
                  (first | rw [← Ny155.out] at ho53 | (simp only [Int.reduceToNat] at ho53; rw [← Ny155.out] at ho53))
                  have HO157 := As_ (Kd.R_lower (Kd.R_newB (Kd.R_new' (Kd.R_new' ho53 (Kd.R_lt (by (with_reducible repeat (first | apply Kd.R_alloc | apply Kd.R_drewN | apply Kd.R_drew)); exact HO_3.out))) (Kd.R_lt (by (with_reducible repeat (first | apply Kd.R_alloc | apply Kd.R_drewN | apply Kd.R_drew)); exact HO167.out))) (g := gb128) (o := .cells #[.int .i64 ((rd_T87 l0_2 x14_1).f0), .int .i64 ((rd_T87 l0_2 x14_1).f1), .int .i64 ((rd_T87 l0_2 x14_1).f2)] 87 (0, 0)) BK128.out) (below_size (by repeat (first | (with_reducible first | exact HB.out | apply below_alloc | apply pw_below_drewN | apply below_drew1 | refine below_setA ?_ (by assumption)) | exact HB.out))))
                  replace HO_3 := As_ (Kd.R_elder' (by (with_reducible repeat (first | apply Kd.R_alloc | apply Kd.R_drewN | apply Kd.R_drew)); exact HO_3.out) (Kd.R_base ho53) hb)
                  replace HO167 := As_ (Kd.R_elder' (by (with_reducible repeat (first | apply Kd.R_alloc | apply Kd.R_drewN | apply Kd.R_drew)); exact HO167.out) (Kd.R_base ho53) hb)
                  replace BK126 := As_ (blk_b hb BK126.out)
                  replace BK128 := As_ (blk_b hb BK128.out)
                  replace HR161 := As_ (Kd.C_below (by repeat (first | (with_reducible exact HR161.out) | (with_reducible refine Kd.C_alloc ?_ _) | (with_reducible refine Kd.C_drewN ?_ _) | (with_reducible refine Kd.C_drew ?_) | exact HR161.out)) hb)
                  replace HB := As_ (below_step (by repeat (first | (with_reducible first | exact HB.out | apply below_alloc | apply pw_below_drewN | apply below_drew1 | refine below_setA ?_ (by assumption)) | exact HB.out)) hb); clear hb ho53
                  refine hK.out _ _ ⟨(blk_cell BK128.out 0).trans rfl, (blk_cell BK128.out 1).trans rfl, (blk_cell BK128.out 2).trans rfl⟩ (fun hHeld => ?_); clear hK K
                  refine norm_ (a' := ?_) ?_ ?_; rotate_left
                  · show Act.put _ (some 57) _ = _
                    simp only [Act.put, sib_, sc0_, sc1_, i64_w, i32_w]
                    rfl
                  refine one_ (i := 4) (N := some 61) #[t_,t_,t_,t_,t_,t_,t_,f_,f_] rfl rfl (one_of HT_.out (by kernel_rfl)) (by decide) (fun K hK => ?_)
                  refine Kd.R_append_rows_step k87 (w0 := w) w.heap.size (by rfl) (.tmp 57) (.tmp 60) 29 87 (.agg #[(.int .i64 0), (.int .i64 0), (.int .i64 0)]) 24 rfl Try.underlying29 info87 rfl (by decide) (by omega) v156 y155 y158 _ _ _ (fun k_ => some k_ ≠ (.slice (some ad129) x3_1.length co10 : Value).ownBlock ∧ some k_ ≠ (v166 : Value).ownBlock ∧ k_ ≠ gb128) (fun _ => False) rfl rfl ?aO ?aR (fun _ _ h => h) (fun _ h => h.elim) ?aF ?aB ?aS ?aL ?_
                  (case aR => repeat (first | exact (by repeat (first | (with_reducible exact HR161.out) | (with_reducible refine Kd.C_alloc ?_ _) | (with_reducible refine Kd.C_drewN ?_ _) | (with_reducible refine Kd.C_drew ?_) | exact HR161.out)) | (with_reducible refine Kd.C_alloc ?_ _) | (with_reducible refine Kd.C_drewN ?_ _) | (with_reducible refine Kd.C_drew ?_)))
                  (case aB => exact (by repeat (first | (with_reducible first | exact HB.out | apply below_alloc | apply pw_below_drewN | apply below_drew1 | refine below_setA ?_ (by assumption)) | exact HB.out)))
                  (case aF => exact (fun k_ hk => ⟨Kd.fresh' (Kd.R_lt (by (with_reducible repeat (first | apply Kd.R_alloc | apply Kd.R_drewN | apply Kd.R_drew)); exact HO_3.out)) k_ hk, Kd.fresh' (Kd.R_lt (by (with_reducible repeat (first | apply Kd.R_alloc | apply Kd.R_drewN | apply Kd.R_drew)); exact HO167.out)) k_ hk, Kd.freshB (g := gb128) (o := .cells #[.int .i64 ((rd_T87 l0_2 x14_1).f0), .int .i64 ((rd_T87 l0_2 x14_1).f1), .int .i64 ((rd_T87 l0_2 x14_1).f2)] 87 (0, 0)) BK128.out k_ hk⟩))
                  (case aO => exact (by (with_reducible repeat (first | apply Kd.R_alloc | apply Kd.R_drewN | apply Kd.R_drew)); exact Kd.R_mono HO157.out (fun _ hk => ⟨hk.1.1.2, ⟨hk.1.2, hk.2⟩⟩)))
                  (case aS => exact (below_size (by repeat (first | (with_reducible first | exact HB.out | apply below_alloc | apply pw_below_drewN | apply below_drew1 | refine below_setA ?_ (by assumption)) | exact HB.out))))
                  (case aL => have := LMc42.out; omega)
                  intro v163 w54 ho hb hg hat
                  rw [← Ny162.out] at ho
                  have n0_ := As_ (Kd.R_after (ok := (fun k_ => some k_ ≠ (v166 : Value).ownBlock ∧ k_ ≠ gb128)) (by (with_reducible repeat (first | apply Kd.R_alloc | apply Kd.R_drewN | apply Kd.R_drew)); exact Kd.R_mono HO_3.out (fun _ hk => ⟨⟨hk.1.2, hk.1.1⟩, hk.2⟩)) hg hat)
                  have n1_ := As_ (blk_grown (g := gb126) (o := .cells #[.int .i64 a0_0, .int .i64 a0_1, .slice (some ad127) l0_2.length c0_2] 31 (0, 0)) BK126.out hg (Kd.R_ne HO157.out BK126.out (by decide)))
                  have n2_ := As_ (blk_grown (g := gb128) (o := .cells #[.int .i64 ((rd_T87 l0_2 x14_1).f0), .int .i64 ((rd_T87 l0_2 x14_1).f1), .int .i64 ((rd_T87 l0_2 x14_1).f2)] 87 (0, 0)) BK128.out hg (Kd.R_away HO157.out (fun _ hk => hk.2)))
                  have n3_ := As_ (Kd.R_after (ok := (fun k_ => some k_ ≠ (.slice (some ad129) x3_1.length co10 : Value).ownBlock ∧ k_ ≠ gb128)) (by (with_reducible repeat (first | apply Kd.R_alloc | apply Kd.R_drewN | apply Kd.R_drew)); exact Kd.R_mono HO167.out (fun _ hk => ⟨⟨hk.1.1.2, hk.1.2⟩, hk.2⟩)) hg hat)
                  have n4_ := As_ (hb)
                  have n5_ := As_ ((show Kd.C k87 w54 (some ad129) y158.length y158 from by rw [Ny158.out]; exact Kd.C_take (m := (x6_2 : Int).toNat) ((Kd.R_reads' (Kd.R_after (ok := (fun k_ => some k_ ≠ (v166 : Value).ownBlock ∧ k_ ≠ gb128)) (by (with_reducible repeat (first | apply Kd.R_alloc | apply Kd.R_drewN | apply Kd.R_drew)); exact Kd.R_mono HO_3.out (fun _ hk => ⟨⟨hk.1.2, hk.1.1⟩, hk.2⟩)) hg hat)).2.2) KL49.out))
                  have n6_ := As_ (ho)
                  clear HO_3; clear BK126; clear BK128; clear HO167; clear HB; clear HR161; clear HO157
                  have HO_3 := n0_
                  have BK126 := n1_
                  have BK128 := n2_
                  have HO167 := n3_
                  have HB := n4_
                  have HR161 := n5_
                  have HO164 := n6_
                  clear n0_ n1_ n2_ n3_ n4_ n5_ n6_; clear ho hb hg hat
                  refine hK.out _ _ ⟨(blk_cell BK128.out 0).trans rfl, (blk_cell BK128.out 1).trans rfl, (blk_cell BK128.out 2).trans rfl⟩ (fun hHeld => ?_); clear hK K
                  refine norm_ (a' := ?_) ?_ ?_; rotate_left
                  · show Act.put _ (some 61) _ = _
                    simp only [Act.put, sib_, sc0_, sc1_, i64_w, i32_w]
                    rfl
                  exact norm_ (by simp only [putAll, Act.put, sib_, sc0_, sc1_]) (hCont (v156, v163, v166) _ ⟨hHeld, (by (with_reducible repeat (first | apply Kd.R_alloc | apply Kd.R_drewN | apply Kd.R_drew)); exact Kd.R_mono HO164.out (fun _ hk => ⟨hk.2.1, ⟨hk.1, hk.2.2⟩⟩)), (by (with_reducible repeat (first | apply Kd.R_alloc | apply Kd.R_drewN | apply Kd.R_drew)); exact Kd.R_mono HO167.out (fun _ hk => ⟨hk.2, ⟨hk.1.1, hk.1.2⟩⟩)), (by (with_reducible repeat (first | apply Kd.R_alloc | apply Kd.R_drewN | apply Kd.R_drew)); exact Kd.R_mono HO_3.out (fun _ hk => ⟨hk.2, ⟨hk.1.1, hk.1.2⟩⟩)), BK126.out, BK128.out, (by repeat (first | (with_reducible first | exact HB.out | apply below_alloc | apply pw_below_drewN | apply below_drew1 | refine below_setA ?_ (by assumption)) | exact HB.out))⟩)
              rintro ⟨v156, v163, v166⟩ w55 ⟨hS_, h0_, h1_, h2_, h3_, h4_, h5_⟩
              have n0_ : Aside0 (Kd.R k87 87 w55 w.heap.size (fun k_ => some k_ ≠ (v166 : Value).ownBlock ∧ some k_ ≠ (.slice (some ad129) x3_1.length co10 : Value).ownBlock ∧ k_ ≠ gb128) v163 y162) := ⟨h0_⟩
              have n1_ : Aside0 (Kd.R k87 87 w55 w.heap.size (fun k_ => some k_ ≠ (v163 : Value).ownBlock ∧ some k_ ≠ (.slice (some ad129) x3_1.length co10 : Value).ownBlock ∧ k_ ≠ gb128) v166 y165) := ⟨h1_⟩
              have n2_ : Aside0 (Kd.R k87 87 w55 w.heap.size (fun k_ => some k_ ≠ (v163 : Value).ownBlock ∧ some k_ ≠ (v166 : Value).ownBlock ∧ k_ ≠ gb128) (.slice (some ad129) x3_1.length co10) x3_1) := ⟨h2_⟩
              have n3_ : Aside0 (w55.heap[gb126]? = some (.cells #[.int .i64 a0_0, .int .i64 a0_1, .slice (some ad127) l0_2.length c0_2] 31 (0, 0))) := ⟨h3_⟩
              have n4_ : Aside0 (w55.heap[gb128]? = some (.cells #[.int .i64 ((rd_T87 l0_2 x14_1).f0), .int .i64 ((rd_T87 l0_2 x14_1).f1), .int .i64 ((rd_T87 l0_2 x14_1).f2)] 87 (0, 0))) := ⟨h4_⟩
              have n5_ : Aside0 (Below w.heap.size w w55) := ⟨h5_⟩
              clear HO_3; clear BK126; clear BK128; clear HB; clear h0_ h1_ h2_ h3_ h4_ h5_
              have HO164 := n0_
              have HO167 := n1_
              have HO_3 := n2_
              have BK126 := n3_
              have BK128 := n4_
              have HB := n5_
              clear n0_ n1_ n2_ n3_ n4_ n5_
              have hHeld : w55.cell? ⟨gb128, 0, none⟩ = some (.int .i64 ((rd_T87 l0_2 x14_1).f0)) ∧ w55.cell? ⟨gb128, 1, none⟩ = some (.int .i64 ((rd_T87 l0_2 x14_1).f1)) ∧ w55.cell? ⟨gb128, 2, none⟩ = some (.int .i64 ((rd_T87 l0_2 x14_1).f2)) := hS_
              obtain ⟨Ao57, co57, eo57⟩ := Kd.R_slice HO167.out
              (first | subst eo57 | (injection eo57 with f1_ f2_ f3_; have f4_ := f1_.symm; have f5_ := f3_.symm; clear f1_ f2_ f3_; subst f4_; subst f5_))
              refine norm_ (a' := ?_) ?_ ?_; rotate_left
              · simp only [putAll, Act.put, sib_, sc0_, sc1_]; rfl
              refine one_ (i := 7) (N := some 64) #[t_,t_,t_,t_,t_,t_,t_,t_,f_] rfl rfl (one_of HT_.out (by kernel_rfl)) (by decide) (fun K hK => ?_)
              refine Kd.R_append_rows_step k87 (w0 := w) w.heap.size (by rfl) (.tmp 61) (.tmp 63) 29 87 (.agg #[(.int .i64 0), (.int .i64 0), (.int .i64 0)]) 24 rfl Try.underlying29 info87 rfl (by decide) (by omega) v163 y162 y165 _ _ _ (fun k_ => some k_ ≠ (.slice (some ad129) x3_1.length co10 : Value).ownBlock ∧ some k_ ≠ (.slice Ao57 y165.length co57 : Value).ownBlock ∧ k_ ≠ gb128) (fun _ => False) rfl rfl ?aO ?aR (fun _ _ h => h) (fun _ h => h.elim) ?aF ?aB ?aS ?aL ?_
              (case aR => repeat (first | exact (Kd.R_reads' HO167.out).2.2 | (with_reducible refine Kd.C_alloc ?_ _) | (with_reducible refine Kd.C_drewN ?_ _) | (with_reducible refine Kd.C_drew ?_)))
              (case aB => exact (by repeat (first | (with_reducible first | exact HB.out | apply below_alloc | apply pw_below_drewN | apply below_drew1 | refine below_setA ?_ (by assumption)) | exact HB.out)))
              (case aF => exact (fun k_ hk => ⟨Kd.fresh' (Kd.R_lt (by (with_reducible repeat (first | apply Kd.R_alloc | apply Kd.R_drewN | apply Kd.R_drew)); exact HO_3.out)) k_ hk, Kd.fresh' (Kd.R_lt (by (with_reducible repeat (first | apply Kd.R_alloc | apply Kd.R_drewN | apply Kd.R_drew)); exact HO167.out)) k_ hk, Kd.freshB (g := gb128) (o := .cells #[.int .i64 ((rd_T87 l0_2 x14_1).f0), .int .i64 ((rd_T87 l0_2 x14_1).f1), .int .i64 ((rd_T87 l0_2 x14_1).f2)] 87 (0, 0)) BK128.out k_ hk⟩))
              (case aO => exact (by (with_reducible repeat (first | apply Kd.R_alloc | apply Kd.R_drewN | apply Kd.R_drew)); exact Kd.R_mono HO164.out (fun _ hk => ⟨hk.2.1, ⟨hk.1, hk.2.2⟩⟩)))
              (case aS => exact (below_size (by repeat (first | (with_reducible first | exact HB.out | apply below_alloc | apply pw_below_drewN | apply below_drew1 | refine below_setA ?_ (by assumption)) | exact HB.out))))
              (case aL => have := LMc43.out; omega)
              intro v169 w56 ho hb hg hat
              rw [← Ny168.out] at ho
              have n0_ := As_ (Kd.R_after (ok := (fun k_ => some k_ ≠ (.slice Ao57 y165.length co57 : Value).ownBlock ∧ k_ ≠ gb128)) (by (with_reducible repeat (first | apply Kd.R_alloc | apply Kd.R_drewN | apply Kd.R_drew)); exact Kd.R_mono HO_3.out (fun _ hk => ⟨⟨hk.2.1, hk.2.2⟩, hk.1⟩)) hg hat)
              have n1_ := As_ (blk_grown (g := gb126) (o := .cells #[.int .i64 a0_0, .int .i64 a0_1, .slice (some ad127) l0_2.length c0_2] 31 (0, 0)) BK126.out hg (Kd.R_ne HO164.out BK126.out (by decide)))
              have n2_ := As_ (blk_grown (g := gb128) (o := .cells #[.int .i64 ((rd_T87 l0_2 x14_1).f0), .int .i64 ((rd_T87 l0_2 x14_1).f1), .int .i64 ((rd_T87 l0_2 x14_1).f2)] 87 (0, 0)) BK128.out hg (Kd.R_away HO164.out (fun _ hk => hk.2.2)))
              have n3_ := As_ (Kd.R_after (ok := (fun k_ => some k_ ≠ (.slice (some ad129) x3_1.length co10 : Value).ownBlock ∧ k_ ≠ gb128)) (by (with_reducible repeat (first | apply Kd.R_alloc | apply Kd.R_drewN | apply Kd.R_drew)); exact Kd.R_mono HO167.out (fun _ hk => ⟨⟨hk.2.1, hk.2.2⟩, hk.1⟩)) hg hat)
              have n4_ := As_ (hb)
              have n5_ := As_ (ho)
              clear HO_3; clear BK126; clear BK128; clear HO167; clear HB; clear HO164
              have HO_3 := n0_
              have BK126 := n1_
              have BK128 := n2_
              have HO167 := n3_
              have HB := n4_
              have HO170 := n5_
              clear n0_ n1_ n2_ n3_ n4_ n5_; clear ho hb hg hat
              refine hK.out _ _ ⟨(blk_cell BK128.out 0).trans rfl, (blk_cell BK128.out 1).trans rfl, (blk_cell BK128.out 2).trans rfl⟩ (fun hHeld => ?_); clear hK K
              refine norm_ (a' := ?_) ?_ ?_; rotate_left
              · show Act.put _ (some 64) _ = _
                simp only [Act.put, sib_, sc0_, sc1_, i64_w, i32_w]
                rfl
              refine pure_ (i := 8) (N := some 7) (v := ?_) (a' := ?_) #[t_,t_,t_,t_,t_,t_,t_,t_,t_] rfl rfl (any_of HT_.out (by kernel_rfl)) (fun _ _ _ h => h) (Or.inl ⟨by rfl, ?_⟩) ?_ ?_; rotate_left
              · intro w'; go_simp; with_reducible rfl
              rotate_left
              · simp only [Act.put, sib_, sc0_, sc1_, i64_w, i32_w]; rfl
              refine done_ (done_of HT_.out (by kernel_rfl)) ?_
              have q58 : (x6_2 : Int) ≤ ((x3_1.length : Int) : Int) := of_decide_eq_true (by first | (with_reducible assumption) | assumption)
              obtain ⟨i058, hi058, _, hsz58, _⟩ := info_parts info87
              have hroom58 : x3_1.length ≤ co10 := (Kd.R_reads' HO_3.out).2.1
              have hC58 : Kd.C k87 _ (some ad129) x3_1.length x3_1 := (Kd.R_reads' HO_3.out).2.2
              have q058 : (0 : Int) ≤ (x6_2 : Int) := of_decide_eq_true (by first | (with_reducible assumption) | assumption)
              have hcut58 := cut_from (P := Try.prog) 29 87 .i64 Try.underlying29 hi058 3 hsz58 (some ad129) x3_1.length co10 x6_2 q058 q58
              have hr58 := Kd.C_drop (m := (x6_2 : Int).toNat) (c := co10) hC58 (by omega) hroom58
              obtain ⟨A58, hA58⟩ : ∃ A1, A1 = (if co10 = (x6_2 : Int).toNat then (some ad129) else ((some ad129) : Option Addr).map (·.add ((x6_2 : Int).toNat * 3))) := ⟨_, rfl⟩
              obtain ⟨c58, hc58⟩ : ∃ c1, c1 = co10 - (x6_2 : Int).toNat := ⟨_, rfl⟩
              have hy58 : y171.length = x3_1.length - (x6_2 : Int).toNat := (by rw [Ny171.out, List.length_drop] <;> omega)
              rw [show (x3_1).drop (x6_2 : Int).toNat = y171 from Ny171.out.symm] at hr58
              replace hr58 : Kd.C k87 _ A58 y171.length y171 := (by rw [hA58]; exact hr58)
              rw [← hy58, ← hA58, ← hc58] at hcut58
              have HR174 := As_ hr58
              have HC174 := As_ (show y171.length ≤ c58 from by rw [hy58, hc58]; exact Nat.sub_le_sub_right hroom58 _)
              clear hr58 hC58 hroom58 hi058 hsz58 hc58
              have KY58 := As_ hy58
              have KA58 := As_ hA58
              clear hy58 hA58
              have KL58 := As_ (show (x6_2 : Int).toNat ≤ x3_1.length from by omega)
              replace q58 := eq_true q58
              try go_wp2_with (first | ((with_reducible refine gate_builtin (b := .append) (xs := #[.tmp 65, .tmp 68]) rfl ?_); at_builtin; refine Kd.R_append_rows k87 (w0 := w) w.heap.size rfl (.tmp 65) (.tmp 68) 29 87 (.agg #[(.int .i64 0), (.int .i64 0), (.int .i64 0)]) 24 rfl Try.underlying29 info87 rfl (by decide) (by omega) v169 y168 y171 _ _ _ (fun k_ => some k_ ≠ (.slice (some ad129) x3_1.length co10 : Value).ownBlock ∧ some k_ ≠ (.slice Ao57 y165.length co57 : Value).ownBlock ∧ k_ ≠ gb128) (fun _ => False) rfl rfl ?aO ?aR (fun _ _ h => h) (fun _ h => h.elim) ?aF ?aB ?aS ?aL ?_; (case aR => repeat (first | exact (by repeat (first | (with_reducible exact HR174.out) | (with_reducible refine Kd.C_alloc ?_ _) | (with_reducible refine Kd.C_drewN ?_ _) | (with_reducible refine Kd.C_drew ?_) | exact HR174.out)) | (with_reducible refine Kd.C_alloc ?_ _) | (with_reducible refine Kd.C_drewN ?_ _) | (with_reducible refine Kd.C_drew ?_))); (case aB => exact (by repeat (first | (with_reducible first | exact HB.out | apply below_alloc | apply pw_below_drewN | apply below_drew1 | refine below_setA ?_ (by assumption)) | exact HB.out))); (case aF => exact (fun k_ hk => ⟨Kd.fresh' (Kd.R_lt (by (with_reducible repeat (first | apply Kd.R_alloc | apply Kd.R_drewN | apply Kd.R_drew)); exact HO_3.out)) k_ hk, Kd.fresh' (Kd.R_lt (by (with_reducible repeat (first | apply Kd.R_alloc | apply Kd.R_drewN | apply Kd.R_drew)); exact HO167.out)) k_ hk, Kd.freshB (g := gb128) (o := .cells #[.int .i64 ((rd_T87 l0_2 x14_1).f0), .int .i64 ((rd_T87 l0_2 x14_1).f1), .int .i64 ((rd_T87 l0_2 x14_1).f2)] 87 (0, 0)) BK128.out k_ hk⟩)); (case aO => exact (by (with_reducible repeat (first | apply Kd.R_alloc | apply Kd.R_drewN | apply Kd.R_drew)); exact HO170.out)); (case aS => exact (below_size (by repeat (first | (with_reducible first | exact HB.out | apply below_alloc | apply pw_below_drewN | apply below_drew1 | refine below_setA ?_ (by assumption)) | exact HB.out)))); (case aL => have := LMc46.out; omega); intro v176 w59 ho hb hg hat; rw [← Ny175.out] at ho; have n0_ := As_ (Kd.R_after (ok := (fun k_ => some k_ ≠ (.slice Ao57 y165.length co57 : Value).ownBlock ∧ k_ ≠ gb128)) (by (with_reducible repeat (first | apply Kd.R_alloc | apply Kd.R_drewN | apply Kd.R_drew)); exact HO_3.out) hg hat); have n1_ := As_ (blk_grown (g := gb126) (o := .cells #[.int .i64 a0_0, .int .i64 a0_1, .slice (some ad127) l0_2.length c0_2] 31 (0, 0)) BK126.out hg (Kd.R_ne HO170.out BK126.out (by decide))); have n2_ := As_ (blk_grown (g := gb128) (o := .cells #[.int .i64 ((rd_T87 l0_2 x14_1).f0), .int .i64 ((rd_T87 l0_2 x14_1).f1), .int .i64 ((rd_T87 l0_2 x14_1).f2)] 87 (0, 0)) BK128.out hg (Kd.R_away HO170.out (fun _ hk => hk.2.2))); have n3_ := As_ (Kd.R_after (ok := (fun k_ => some k_ ≠ (.slice (some ad129) x3_1.length co10 : Value).ownBlock ∧ k_ ≠ gb128)) (by (with_reducible repeat (first | apply Kd.R_alloc | apply Kd.R_drewN | apply Kd.R_drew)); exact HO167.out) hg hat); have n4_ := As_ (hb); have n5_ := As_ ((show Kd.C k87 w59 A58 y171.length y171 from by rw [Ny171.out, KA58.out]; exact Kd.C_drop (m := (x6_2 : Int).toNat) (c := co10) ((Kd.R_reads' (Kd.R_after (ok := (fun k_ => some k_ ≠ (.slice Ao57 y165.length co57 : Value).ownBlock ∧ k_ ≠ gb128)) (by (with_reducible repeat (first | apply Kd.R_alloc | apply Kd.R_drewN | apply Kd.R_drew)); exact HO_3.out) hg hat)).2.2) KL58.out ((Kd.R_reads' (Kd.R_after (ok := (fun k_ => some k_ ≠ (.slice Ao57 y165.length co57 : Value).ownBlock ∧ k_ ≠ gb128)) (by (with_reducible repeat (first | apply Kd.R_alloc | apply Kd.R_drewN | apply Kd.R_drew)); exact HO_3.out) hg hat)).2.1))); have n6_ := As_ (ho); clear HO_3; clear BK126; clear BK128; clear HO167; clear HB; clear HR174; clear HO170; have HO_3 := n0_; have BK126 := n1_; have BK128 := n2_; have HO167 := n3_; have HB := n4_; have HR174 := n5_; have HO177 := n6_; clear n0_ n1_ n2_ n3_ n4_ n5_ n6_; clear ho hb hg hat))
              go_roundg k2
              case measure => have := HK1.out; have := HK2.out; omega
              case rel => exact ⟨(y175), (wrap64 (x14_1 + 1)), (by first | rfl | (simp; done) | (simp [*]; done)), H', ⟨by have := HK1.out; have := HK2.out; omega⟩, ⟨by (with_reducible repeat (first | apply Kd.R_alloc | apply Kd.R_drewN | apply Kd.R_drew)); exact Kd.R_mono HO177.out (fun _ hk => trivial)⟩, ⟨by (with_reducible repeat (first | refine blk_drewN ?_ _ | refine blk_drew ?_ | refine blk_alloc ?_ _)); exact BK126.out⟩, ⟨by repeat (first | (with_reducible first | exact HB.out | apply below_alloc | apply pw_below_drewN | apply below_drew1 | refine below_setA ?_ (by assumption)) | exact HB.out)⟩⟩
        · rw [if_neg c11] at H
          have c11b0 : decide (0 < x6_2) = false := decide_eq_false c11
          clear c11
          obtain ⟨y178, hy178⟩ : ∃ y_ : List (S87), y_ = (([] : List (S87))) := ⟨_, rfl⟩
          replace H : (if 0 ≤ x6_2 then (if x6_2 ≤ (x3_1.length : Int) then ((some (x3_1.take (x6_2 : Int).toNat : List (S87))).bind fun y181 => (if y178.length + y181.length < 5864062014805 then ((some (y178 ++ y181 : List (S87))).bind fun y185 => ((some (([(⟨((rd_T87 l0_2 x14_1).f0), ((rd_T87 l0_2 x14_1).f1), ((rd_T87 l0_2 x14_1).f2)⟩ : S87)] : List (S87)) : List (S87))).bind fun y188 => (if y185.length + y188.length < 5864062014805 then ((some (y185 ++ y188 : List (S87))).bind fun y191 => ((some (x3_1.drop (x6_2 : Int).toNat : List (S87))).bind fun y194 => (if y191.length + y194.length < 5864062014805 then (spec_stSides.l0 k2 (y191 ++ y194) l0_2 (l0_2.length : Int) (wrap64 (x14_1 + 1))) else (none)))) else (none)))) else (none))) else (none)) else (none)) = some r := by first | (rw [hy178]; with_reducible exact H) | (have H2_ := (Option.bind_some _ _).symm.trans H; rw [hy178]; with_reducible exact H2_) | (have H2_ := (Option.bind_some _ _).symm.trans H; with_reducible exact H2_) | with_reducible exact H | (rw [hy178]; exact H) | exact H
          have Ny178 := As_ hy178
          clear hy178
          by_cases c60 : 0 ≤ x6_2
          case neg => rw [if_neg c60] at H; exact absurd H (by simp)
          rw [if_pos c60] at H
          have c60b0 := eq_true c60
          have c60b1 : decide (0 ≤ x6_2) = true := decide_eq_true c60
          clear c60
          by_cases c61 : x6_2 ≤ (x3_1.length : Int)
          case neg => rw [if_neg c61] at H; exact absurd H (by simp)
          rw [if_pos c61] at H
          have c61b0 := eq_true c61
          have c61b1 : decide (x6_2 ≤ (x3_1.length : Int)) = true := decide_eq_true c61
          clear c61
          obtain ⟨y181, hy181⟩ : ∃ y_ : List (S87), y_ = (x3_1.take (x6_2 : Int).toNat) := ⟨_, rfl⟩
          replace H : (if y178.length + y181.length < 5864062014805 then ((some (y178 ++ y181 : List (S87))).bind fun y185 => ((some (([(⟨((rd_T87 l0_2 x14_1).f0), ((rd_T87 l0_2 x14_1).f1), ((rd_T87 l0_2 x14_1).f2)⟩ : S87)] : List (S87)) : List (S87))).bind fun y188 => (if y185.length + y188.length < 5864062014805 then ((some (y185 ++ y188 : List (S87))).bind fun y191 => ((some (x3_1.drop (x6_2 : Int).toNat : List (S87))).bind fun y194 => (if y191.length + y194.length < 5864062014805 then (spec_stSides.l0 k2 (y191 ++ y194) l0_2 (l0_2.length : Int) (wrap64 (x14_1 + 1))) else (none)))) else (none)))) else (none)) = some r := by first | (rw [hy181]; with_reducible exact H) | (have H2_ := (Option.bind_some _ _).symm.trans H; rw [hy181]; with_reducible exact H2_) | (have H2_ := (Option.bind_some _ _).symm.trans H; with_reducible exact H2_) | with_reducible exact H | (rw [hy181]; exact H) | exact H
          have Ny181 := As_ hy181
          clear hy181
          by_cases c62 : y178.length + y181.length < 5864062014805
          case neg => rw [if_neg c62] at H; exact absurd H (by simp)
          rw [if_pos c62] at H
          have LMc62 := As_ c62
          clear c62
          obtain ⟨y185, hy185⟩ : ∃ y_ : List (S87), y_ = (y178 ++ y181) := ⟨_, rfl⟩
          replace H : ((some (([(⟨((rd_T87 l0_2 x14_1).f0), ((rd_T87 l0_2 x14_1).f1), ((rd_T87 l0_2 x14_1).f2)⟩ : S87)] : List (S87)) : List (S87))).bind fun y188 => (if y185.length + y188.length < 5864062014805 then ((some (y185 ++ y188 : List (S87))).bind fun y191 => ((some (x3_1.drop (x6_2 : Int).toNat : List (S87))).bind fun y194 => (if y191.length + y194.length < 5864062014805 then (spec_stSides.l0 k2 (y191 ++ y194) l0_2 (l0_2.length : Int) (wrap64 (x14_1 + 1))) else (none)))) else (none))) = some r := by first | (rw [hy185]; with_reducible exact H) | (have H2_ := (Option.bind_some _ _).symm.trans H; rw [hy185]; with_reducible exact H2_) | (have H2_ := (Option.bind_some _ _).symm.trans H; with_reducible exact H2_) | with_reducible exact H | (rw [hy185]; exact H) | exact H
          have Ny185 := As_ hy185
          clear hy185
          obtain ⟨y188, hy188⟩ : ∃ y_ : List (S87), y_ = (([(⟨((rd_T87 l0_2 x14_1).f0), ((rd_T87 l0_2 x14_1).f1), ((rd_T87 l0_2 x14_1).f2)⟩ : S87)] : List (S87))) := ⟨_, rfl⟩
          replace H : (if y185.length + y188.length < 5864062014805 then ((some (y185 ++ y188 : List (S87))).bind fun y191 => ((some (x3_1.drop (x6_2 : Int).toNat : List (S87))).bind fun y194 => (if y191.length + y194.length < 5864062014805 then (spec_stSides.l0 k2 (y191 ++ y194) l0_2 (l0_2.length : Int) (wrap64 (x14_1 + 1))) else (none)))) else (none)) = some r := by first | (rw [hy188]; with_reducible exact H) | (have H2_ := (Option.bind_some _ _).symm.trans H; rw [hy188]; with_reducible exact H2_) | (have H2_ := (Option.bind_some _ _).symm.trans H; with_reducible exact H2_) | with_reducible exact H | (rw [hy188]; exact H) | exact H
          have Ny188 := As_ hy188
          clear hy188
          by_cases c63 : y185.length + y188.length < 5864062014805
          case neg => rw [if_neg c63] at H; exact absurd H (by simp)
          rw [if_pos c63] at H
          have LMc63 := As_ c63
          clear c63
          obtain ⟨y191, hy191⟩ : ∃ y_ : List (S87), y_ = (y185 ++ y188) := ⟨_, rfl⟩
          replace H : ((some (x3_1.drop (x6_2 : Int).toNat : List (S87))).bind fun y194 => (if y191.length + y194.length < 5864062014805 then (spec_stSides.l0 k2 (y191 ++ y194) l0_2 (l0_2.length : Int) (wrap64 (x14_1 + 1))) else (none))) = some r := by first | (rw [hy191]; with_reducible exact H) | (have H2_ := (Option.bind_some _ _).symm.trans H; rw [hy191]; with_reducible exact H2_) | (have H2_ := (Option.bind_some _ _).symm.trans H; with_reducible exact H2_) | with_reducible exact H | (rw [hy191]; exact H) | exact H
          have Ny191 := As_ hy191
          clear hy191
          have c64b0 := eq_true (of_decide_eq_true (by first | (with_reducible assumption) | assumption) : 0 ≤ x6_2)
          have c65b0 := eq_true (of_decide_eq_true (by first | (with_reducible assumption) | assumption) : x6_2 ≤ (x3_1.length : Int))
          obtain ⟨y194, hy194⟩ : ∃ y_ : List (S87), y_ = (x3_1.drop (x6_2 : Int).toNat) := ⟨_, rfl⟩
          replace H : (if y191.length + y194.length < 5864062014805 then (spec_stSides.l0 k2 (y191 ++ y194) l0_2 (l0_2.length : Int) (wrap64 (x14_1 + 1))) else (none)) = some r := by first | (rw [hy194]; with_reducible exact H) | (have H2_ := (Option.bind_some _ _).symm.trans H; rw [hy194]; with_reducible exact H2_) | (have H2_ := (Option.bind_some _ _).symm.trans H; with_reducible exact H2_) | with_reducible exact H | (rw [hy194]; exact H) | exact H
          have Ny194 := As_ hy194
          clear hy194
          by_cases c66 : y191.length + y194.length < 5864062014805
          case neg => rw [if_neg c66] at H; exact absurd H (by simp)
          rw [if_pos c66] at H
          have LMc66 := As_ c66
          clear c66
          obtain ⟨y198, hy198⟩ : ∃ y_ : List (S87), y_ = (y191 ++ y194) := ⟨_, rfl⟩
          replace H : (spec_stSides.l0 k2 y198 l0_2 (l0_2.length : Int) (wrap64 (x14_1 + 1))) = some r := by first | (rw [hy198]; with_reducible exact H) | (have H2_ := (Option.bind_some _ _).symm.trans H; rw [hy198]; with_reducible exact H2_) | (have H2_ := (Option.bind_some _ _).symm.trans H; with_reducible exact H2_) | with_reducible exact H | (rw [hy198]; exact H) | exact H
          have Ny198 := As_ hy198
          clear hy198
          have H' := As_ H
          clear H
          try go_wp2
          replace HO_3 := As_ (Kd.R_drew HO_3.out)
          replace BK126 := As_ (blk_drew BK126.out)
          replace BK128 := As_ (blk_drew BK128.out)
          replace HB := As_ (below_drew1 HB.out)
          refine start_ (n := 35) (S := fun w' => True) (ds := []) #[f_,f_,f_,f_,f_,f_,f_,f_,f_,f_,f_,f_,f_,f_,f_,f_,f_,f_,f_,f_,f_,f_,f_,f_,f_,f_,f_,f_,f_,f_,f_,f_,f_,f_,f_] (by kernel_rfl) rfl rfl trivial (fun hHeld => ?_); refine with_tabW spec_stSides.tab6 spec_stSides.bits6 (fun HT_ HW_ => ?_)
          generalize wr.drew = w67 at HO_3 BK126 BK128 HB hHeld ⊢
          refine pure_ (i := 0) (N := some 20) (v := ?_) (a' := ?_) #[t_,f_,f_,f_,f_,f_,f_,f_,f_,f_,f_,f_,f_,f_,f_,f_,f_,f_,f_,f_,f_,f_,f_,f_,f_,f_,f_,f_,f_,f_,f_,f_,f_,f_,f_] rfl rfl (any_of HT_.out (by kernel_rfl)) (fun _ _ _ h => h) (Or.inl ⟨by rfl, ?_⟩) ?_ ?_; rotate_left
          · intro w'; go_simp; with_reducible rfl
          rotate_left
          · simp only [Act.put, sib_, sc0_, sc1_, i64_w, i32_w]; rfl
          refine pure_ (i := 1) (N := some 21) (v := ?_) (a' := ?_) #[t_,t_,f_,f_,f_,f_,f_,f_,f_,f_,f_,f_,f_,f_,f_,f_,f_,f_,f_,f_,f_,f_,f_,f_,f_,f_,f_,f_,f_,f_,f_,f_,f_,f_,f_] rfl rfl (any_of HT_.out (by kernel_rfl)) (fun _ _ _ h => h) (Or.inl ⟨by rfl, ?_⟩) ?_ ?_; rotate_left
          · intro w'; go_simp; with_reducible rfl
          rotate_left
          · simp only [Act.put, sib_, sc0_, sc1_, i64_w, i32_w]; rfl
          refine pure_ (i := 2) (N := some 22) (v := ?_) (a' := ?_) #[t_,t_,t_,f_,f_,f_,f_,f_,f_,f_,f_,f_,f_,f_,f_,f_,f_,f_,f_,f_,f_,f_,f_,f_,f_,f_,f_,f_,f_,f_,f_,f_,f_,f_,f_] rfl rfl (any_of HT_.out (by kernel_rfl)) (fun _ _ _ h => h) (Or.inl ⟨by rfl, ?_⟩) ?_ ?_; rotate_left
          · intro w'; go_simp; with_reducible rfl
          rotate_left
          · simp only [Act.put, sib_, sc0_, sc1_, i64_w, i32_w]; rfl
          refine pure_ (i := 3) (N := some 23) (v := undef) (a' := ?_) #[t_,t_,t_,t_,f_,f_,f_,f_,f_,f_,f_,f_,f_,f_,f_,f_,f_,f_,f_,f_,f_,f_,f_,f_,f_,f_,f_,f_,f_,f_,f_,f_,f_,f_,f_] rfl rfl (any_of HT_.out (by kernel_rfl)) (fun _ _ _ h => h) (Or.inr ⟨by rfl, rfl⟩) ?_ ?_; rotate_left
          · simp only [Act.put, sib_, sc0_, sc1_, i64_w, i32_w]; rfl
          refine pure_ (i := 4) (N := some 24) (v := undef) (a' := ?_) #[t_,t_,t_,t_,t_,f_,f_,f_,f_,f_,f_,f_,f_,f_,f_,f_,f_,f_,f_,f_,f_,f_,f_,f_,f_,f_,f_,f_,f_,f_,f_,f_,f_,f_,f_] rfl rfl (any_of HT_.out (by kernel_rfl)) (fun _ _ _ h => h) (Or.inr ⟨by rfl, rfl⟩) ?_ ?_; rotate_left
          · simp only [Act.put, sib_, sc0_, sc1_, i64_w, i32_w]; rfl
          refine pure_ (i := 5) (N := some 25) (v := undef) (a' := ?_) #[t_,t_,t_,t_,t_,t_,f_,f_,f_,f_,f_,f_,f_,f_,f_,f_,f_,f_,f_,f_,f_,f_,f_,f_,f_,f_,f_,f_,f_,f_,f_,f_,f_,f_,f_] rfl rfl (any_of HT_.out (by kernel_rfl)) (fun _ _ _ h => h) (Or.inr ⟨by rfl, rfl⟩) ?_ ?_; rotate_left
          · simp only [Act.put, sib_, sc0_, sc1_, i64_w, i32_w]; rfl
          refine pure_ (i := 6) (N := some 26) (v := undef) (a' := ?_) #[t_,t_,t_,t_,t_,t_,t_,f_,f_,f_,f_,f_,f_,f_,f_,f_,f_,f_,f_,f_,f_,f_,f_,f_,f_,f_,f_,f_,f_,f_,f_,f_,f_,f_,f_] rfl rfl (any_of HT_.out (by kernel_rfl)) (fun _ _ _ h => h) (Or.inr ⟨by rfl, rfl⟩) ?_ ?_; rotate_left
          · simp only [Act.put, sib_, sc0_, sc1_, i64_w, i32_w]; rfl
          refine pure_ (i := 7) (N := some 27) (v := undef) (a' := ?_) #[t_,t_,t_,t_,t_,t_,t_,t_,f_,f_,f_,f_,f_,f_,f_,f_,f_,f_,f_,f_,f_,f_,f_,f_,f_,f_,f_,f_,f_,f_,f_,f_,f_,f_,f_] rfl rfl (any_of HT_.out (by kernel_rfl)) (fun _ _ _ h => h) (Or.inr ⟨by rfl, rfl⟩) ?_ ?_; rotate_left
          · simp only [Act.put, sib_, sc0_, sc1_, i64_w, i32_w]; rfl
          refine pure_ (i := 8) (N := some 28) (v := undef) (a' := ?_) #[t_,t_,t_,t_,t_,t_,t_,t_,t_,f_,f_,f_,f_,f_,f_,f_,f_,f_,f_,f_,f_,f_,f_,f_,f_,f_,f_,f_,f_,f_,f_,f_,f_,f_,f_] rfl rfl (any_of HT_.out (by kernel_rfl)) (fun _ _ _ h => h) (Or.inr ⟨by rfl, rfl⟩) ?_ ?_; rotate_left
          · simp only [Act.put, sib_, sc0_, sc1_, i64_w, i32_w]; rfl
          refine pure_ (i := 9) (N := some 29) (v := undef) (a' := ?_) #[t_,t_,t_,t_,t_,t_,t_,t_,t_,t_,f_,f_,f_,f_,f_,f_,f_,f_,f_,f_,f_,f_,f_,f_,f_,f_,f_,f_,f_,f_,f_,f_,f_,f_,f_] rfl rfl (any_of HT_.out (by kernel_rfl)) (fun _ _ _ h => h) (Or.inr ⟨by rfl, rfl⟩) ?_ ?_; rotate_left
          · simp only [Act.put, sib_, sc0_, sc1_, i64_w, i32_w]; rfl
          refine pure_ (i := 10) (N := some 30) (v := undef) (a' := ?_) #[t_,t_,t_,t_,t_,t_,t_,t_,t_,t_,t_,f_,f_,f_,f_,f_,f_,f_,f_,f_,f_,f_,f_,f_,f_,f_,f_,f_,f_,f_,f_,f_,f_,f_,f_] rfl rfl (any_of HT_.out (by kernel_rfl)) (fun _ _ _ h => h) (Or.inr ⟨by rfl, rfl⟩) ?_ ?_; rotate_left
          · simp only [Act.put, sib_, sc0_, sc1_, i64_w, i32_w]; rfl
          refine pure_ (i := 11) (N := some 31) (v := undef) (a' := ?_) #[t_,t_,t_,t_,t_,t_,t_,t_,t_,t_,t_,t_,f_,f_,f_,f_,f_,f_,f_,f_,f_,f_,f_,f_,f_,f_,f_,f_,f_,f_,f_,f_,f_,f_,f_] rfl rfl (any_of HT_.out (by kernel_rfl)) (fun _ _ _ h => h) (Or.inr ⟨by rfl, rfl⟩) ?_ ?_; rotate_left
          · simp only [Act.put, sib_, sc0_, sc1_, i64_w, i32_w]; rfl
          refine pure_ (i := 12) (N := some 32) (v := undef) (a' := ?_) #[t_,t_,t_,t_,t_,t_,t_,t_,t_,t_,t_,t_,t_,f_,f_,f_,f_,f_,f_,f_,f_,f_,f_,f_,f_,f_,f_,f_,f_,f_,f_,f_,f_,f_,f_] rfl rfl (any_of HT_.out (by kernel_rfl)) (fun _ _ _ h => h) (Or.inr ⟨by rfl, rfl⟩) ?_ ?_; rotate_left
          · simp only [Act.put, sib_, sc0_, sc1_, i64_w, i32_w]; rfl
          refine pure_ (i := 13) (N := some 33) (v := undef) (a' := ?_) #[t_,t_,t_,t_,t_,t_,t_,t_,t_,t_,t_,t_,t_,t_,f_,f_,f_,f_,f_,f_,f_,f_,f_,f_,f_,f_,f_,f_,f_,f_,f_,f_,f_,f_,f_] rfl rfl (any_of HT_.out (by kernel_rfl)) (fun _ _ _ h => h) (Or.inr ⟨by rfl, rfl⟩) ?_ ?_; rotate_left
          · simp only [Act.put, sib_, sc0_, sc1_, i64_w, i32_w]; rfl
          refine pure_ (i := 14) (N := some 34) (v := undef) (a' := ?_) #[t_,t_,t_,t_,t_,t_,t_,t_,t_,t_,t_,t_,t_,t_,t_,f_,f_,f_,f_,f_,f_,f_,f_,f_,f_,f_,f_,f_,f_,f_,f_,f_,f_,f_,f_] rfl rfl (any_of HT_.out (by kernel_rfl)) (fun _ _ _ h => h) (Or.inr ⟨by rfl, rfl⟩) ?_ ?_; rotate_left
          · simp only [Act.put, sib_, sc0_, sc1_, i64_w, i32_w]; rfl
          refine pure_ (i := 15) (N := some 35) (v := undef) (a' := ?_) #[t_,t_,t_,t_,t_,t_,t_,t_,t_,t_,t_,t_,t_,t_,t_,t_,f_,f_,f_,f_,f_,f_,f_,f_,f_,f_,f_,f_,f_,f_,f_,f_,f_,f_,f_] rfl rfl (any_of HT_.out (by kernel_rfl)) (fun _ _ _ h => h) (Or.inr ⟨by rfl, rfl⟩) ?_ ?_; rotate_left
          · simp only [Act.put, sib_, sc0_, sc1_, i64_w, i32_w]; rfl
          refine pure_ (i := 16) (N := some 36) (v := undef) (a' := ?_) #[t_,t_,t_,t_,t_,t_,t_,t_,t_,t_,t_,t_,t_,t_,t_,t_,t_,f_,f_,f_,f_,f_,f_,f_,f_,f_,f_,f_,f_,f_,f_,f_,f_,f_,f_] rfl rfl (any_of HT_.out (by kernel_rfl)) (fun _ _ _ h => h) (Or.inr ⟨by rfl, rfl⟩) ?_ ?_; rotate_left
          · simp only [Act.put, sib_, sc0_, sc1_, i64_w, i32_w]; rfl
          refine pure_ (i := 17) (N := some 37) (v := undef) (a' := ?_) #[t_,t_,t_,t_,t_,t_,t_,t_,t_,t_,t_,t_,t_,t_,t_,t_,t_,t_,f_,f_,f_,f_,f_,f_,f_,f_,f_,f_,f_,f_,f_,f_,f_,f_,f_] rfl rfl (any_of HT_.out (by kernel_rfl)) (fun _ _ _ h => h) (Or.inr ⟨by rfl, rfl⟩) ?_ ?_; rotate_left
          · simp only [Act.put, sib_, sc0_, sc1_, i64_w, i32_w]; rfl
          refine pure_ (i := 18) (N := some 38) (v := undef) (a' := ?_) #[t_,t_,t_,t_,t_,t_,t_,t_,t_,t_,t_,t_,t_,t_,t_,t_,t_,t_,t_,f_,f_,f_,f_,f_,f_,f_,f_,f_,f_,f_,f_,f_,f_,f_,f_] rfl rfl (any_of HT_.out (by kernel_rfl)) (fun _ _ _ h => h) (Or.inr ⟨by rfl, rfl⟩) ?_ ?_; rotate_left
          · simp only [Act.put, sib_, sc0_, sc1_, i64_w, i32_w]; rfl
          refine pure_ (i := 19) (N := some 39) (v := undef) (a' := ?_) #[t_,t_,t_,t_,t_,t_,t_,t_,t_,t_,t_,t_,t_,t_,t_,t_,t_,t_,t_,t_,f_,f_,f_,f_,f_,f_,f_,f_,f_,f_,f_,f_,f_,f_,f_] rfl rfl (any_of HT_.out (by kernel_rfl)) (fun _ _ _ h => h) (Or.inr ⟨by rfl, rfl⟩) ?_ ?_; rotate_left
          · simp only [Act.put, sib_, sc0_, sc1_, i64_w, i32_w]; rfl
          refine pure_ (i := 20) (N := some 40) (v := undef) (a' := ?_) #[t_,t_,t_,t_,t_,t_,t_,t_,t_,t_,t_,t_,t_,t_,t_,t_,t_,t_,t_,t_,t_,f_,f_,f_,f_,f_,f_,f_,f_,f_,f_,f_,f_,f_,f_] rfl rfl (any_of HT_.out (by kernel_rfl)) (fun _ _ _ h => h) (Or.inr ⟨by rfl, rfl⟩) ?_ ?_; rotate_left
          · simp only [Act.put, sib_, sc0_, sc1_, i64_w, i32_w]; rfl
          refine pure_ (i := 21) (N := some 41) (v := undef) (a' := ?_) #[t_,t_,t_,t_,t_,t_,t_,t_,t_,t_,t_,t_,t_,t_,t_,t_,t_,t_,t_,t_,t_,t_,f_,f_,f_,f_,f_,f_,f_,f_,f_,f_,f_,f_,f_] rfl rfl (any_of HT_.out (by kernel_rfl)) (fun _ _ _ h => h) (Or.inr ⟨by rfl, rfl⟩) ?_ ?_; rotate_left
          · simp only [Act.put, sib_, sc0_, sc1_, i64_w, i32_w]; rfl
          refine pure_ (i := 22) (N := some 42) (v := undef) (a' := ?_) #[t_,t_,t_,t_,t_,t_,t_,t_,t_,t_,t_,t_,t_,t_,t_,t_,t_,t_,t_,t_,t_,t_,t_,f_,f_,f_,f_,f_,f_,f_,f_,f_,f_,f_,f_] rfl rfl (any_of HT_.out (by kernel_rfl)) (fun _ _ _ h => h) (Or.inr ⟨by rfl, rfl⟩) ?_ ?_; rotate_left
          · simp only [Act.put, sib_, sc0_, sc1_, i64_w, i32_w]; rfl
          refine pure_ (i := 23) (N := some 43) (v := undef) (a' := ?_) #[t_,t_,t_,t_,t_,t_,t_,t_,t_,t_,t_,t_,t_,t_,t_,t_,t_,t_,t_,t_,t_,t_,t_,t_,f_,f_,f_,f_,f_,f_,f_,f_,f_,f_,f_] rfl rfl (any_of HT_.out (by kernel_rfl)) (fun _ _ _ h => h) (Or.inr ⟨by rfl, rfl⟩) ?_ ?_; rotate_left
          · simp only [Act.put, sib_, sc0_, sc1_, i64_w, i32_w]; rfl
          refine pure_ (i := 24) (N := some 44) (v := undef) (a' := ?_) #[t_,t_,t_,t_,t_,t_,t_,t_,t_,t_,t_,t_,t_,t_,t_,t_,t_,t_,t_,t_,t_,t_,t_,t_,t_,f_,f_,f_,f_,f_,f_,f_,f_,f_,f_] rfl rfl (any_of HT_.out (by kernel_rfl)) (fun _ _ _ h => h) (Or.inr ⟨by rfl, rfl⟩) ?_ ?_; rotate_left
          · simp only [Act.put, sib_, sc0_, sc1_, i64_w, i32_w]; rfl
          refine pure_ (i := 25) (N := some 45) (v := undef) (a' := ?_) #[t_,t_,t_,t_,t_,t_,t_,t_,t_,t_,t_,t_,t_,t_,t_,t_,t_,t_,t_,t_,t_,t_,t_,t_,t_,t_,f_,f_,f_,f_,f_,f_,f_,f_,f_] rfl rfl (any_of HT_.out (by kernel_rfl)) (fun _ _ _ h => h) (Or.inr ⟨by rfl, rfl⟩) ?_ ?_; rotate_left
          · simp only [Act.put, sib_, sc0_, sc1_, i64_w, i32_w]; rfl
          refine pure_ (i := 26) (N := some 46) (v := undef) (a' := ?_) #[t_,t_,t_,t_,t_,t_,t_,t_,t_,t_,t_,t_,t_,t_,t_,t_,t_,t_,t_,t_,t_,t_,t_,t_,t_,t_,t_,f_,f_,f_,f_,f_,f_,f_,f_] rfl rfl (any_of HT_.out (by kernel_rfl)) (fun _ _ _ h => h) (Or.inr ⟨by rfl, rfl⟩) ?_ ?_; rotate_left
          · simp only [Act.put, sib_, sc0_, sc1_, i64_w, i32_w]; rfl
          refine pure_ (i := 27) (N := some 47) (v := undef) (a' := ?_) #[t_,t_,t_,t_,t_,t_,t_,t_,t_,t_,t_,t_,t_,t_,t_,t_,t_,t_,t_,t_,t_,t_,t_,t_,t_,t_,t_,t_,f_,f_,f_,f_,f_,f_,f_] rfl rfl (any_of HT_.out (by kernel_rfl)) (fun _ _ _ h => h) (Or.inr ⟨by rfl, rfl⟩) ?_ ?_; rotate_left
          · simp only [Act.put, sib_, sc0_, sc1_, i64_w, i32_w]; rfl
          refine pure_ (i := 28) (N := some 48) (v := undef) (a' := ?_) #[t_,t_,t_,t_,t_,t_,t_,t_,t_,t_,t_,t_,t_,t_,t_,t_,t_,t_,t_,t_,t_,t_,t_,t_,t_,t_,t_,t_,t_,f_,f_,f_,f_,f_,f_] rfl rfl (any_of HT_.out (by kernel_rfl)) (fun _ _ _ h => h) (Or.inr ⟨by rfl, rfl⟩) ?_ ?_; rotate_left
          · simp only [Act.put, sib_, sc0_, sc1_, i64_w, i32_w]; rfl
          refine pure_ (i := 29) (N := some 49) (v := undef) (a' := ?_) #[t_,t_,t_,t_,t_,t_,t_,t_,t_,t_,t_,t_,t_,t_,t_,t_,t_,t_,t_,t_,t_,t_,t_,t_,t_,t_,t_,t_,t_,t_,f_,f_,f_,f_,f_] rfl rfl (any_of HT_.out (by kernel_rfl)) (fun _ _ _ h => h) (Or.inr ⟨by rfl, rfl⟩) ?_ ?_; rotate_left
          · simp only [Act.put, sib_, sc0_, sc1_, i64_w, i32_w]; rfl
          refine pure_ (i := 30) (N := some 50) (v := undef) (a' := ?_) #[t_,t_,t_,t_,t_,t_,t_,t_,t_,t_,t_,t_,t_,t_,t_,t_,t_,t_,t_,t_,t_,t_,t_,t_,t_,t_,t_,t_,t_,t_,t_,f_,f_,f_,f_] rfl rfl (any_of HT_.out (by kernel_rfl)) (fun _ _ _ h => h) (Or.inr ⟨by rfl, rfl⟩) ?_ ?_; rotate_left
          · simp only [Act.put, sib_, sc0_, sc1_, i64_w, i32_w]; rfl
          refine pure_ (i := 31) (N := some 51) (v := undef) (a' := ?_) #[t_,t_,t_,t_,t_,t_,t_,t_,t_,t_,t_,t_,t_,t_,t_,t_,t_,t_,t_,t_,t_,t_,t_,t_,t_,t_,t_,t_,t_,t_,t_,t_,f_,f_,f_] rfl rfl (any_of HT_.out (by kernel_rfl)) (fun _ _ _ h => h) (Or.inr ⟨by rfl, rfl⟩) ?_ ?_; rotate_left
          · simp only [Act.put, sib_, sc0_, sc1_, i64_w, i32_w]; rfl
          refine pure_ (i := 32) (N := some 52) (v := undef) (a' := ?_) #[t_,t_,t_,t_,t_,t_,t_,t_,t_,t_,t_,t_,t_,t_,t_,t_,t_,t_,t_,t_,t_,t_,t_,t_,t_,t_,t_,t_,t_,t_,t_,t_,t_,f_,f_] rfl rfl (any_of HT_.out (by kernel_rfl)) (fun _ _ _ h => h) (Or.inr ⟨by rfl, rfl⟩) ?_ ?_; rotate_left
          · simp only [Act.put, sib_, sc0_, sc1_, i64_w, i32_w]; rfl
          refine pure_ (i := 33) (N := some 53) (v := undef) (a' := ?_) #[t_,t_,t_,t_,t_,t_,t_,t_,t_,t_,t_,t_,t_,t_,t_,t_,t_,t_,t_,t_,t_,t_,t_,t_,t_,t_,t_,t_,t_,t_,t_,t_,t_,t_,f_] rfl rfl (any_of HT_.out (by kernel_rfl)) (fun _ _ _ h => h) (Or.inr ⟨by rfl, rfl⟩) ?_ ?_; rotate_left
          · simp only [Act.put, sib_, sc0_, sc1_, i64_w, i32_w]; rfl
          refine pure_ (i := 34) (N := some 54) (v := ?_) (a' := ?_) #[t_,t_,t_,t_,t_,t_,t_,t_,t_,t_,t_,t_,t_,t_,t_,t_,t_,t_,t_,t_,t_,t_,t_,t_,t_,t_,t_,t_,t_,t_,t_,t_,t_,t_,t_] rfl rfl (any_of HT_.out (by kernel_rfl)) (fun _ _ _ h => h) (Or.inl ⟨by rfl, ?_⟩) ?_ ?_; rotate_left
          · intro w'; go_simp; with_reducible rfl
          rotate_left
          · simp only [Act.put, sib_, sc0_, sc1_, i64_w, i32_w]; rfl
          refine done_ (done_of HT_.out (by kernel_rfl)) ?_
          try go_wp2
          replace HO_3 := As_ (Kd.R_drew HO_3.out)
          replace BK126 := As_ (blk_drew BK126.out)
          replace BK128 := As_ (blk_drew BK128.out)
          replace HB := As_ (below_drew1 HB.out)
          have q69 : (x6_2 : Int) ≤ ((x3_1.length : Int) : Int) := of_decide_eq_true (by first | (with_reducible assumption) | assumption)
          obtain ⟨i069, hi069, _, hsz69, _⟩ := info_parts info87
          have hroom69 : x3_1.length ≤ co10 := (Kd.R_reads' HO_3.out).2.1
          have hC69 : Kd.C k87 _ Ao10 x3_1.length x3_1 := (Kd.R_reads' HO_3.out).2.2
          have hcut69 := cut_to (P := Try.prog) 29 87 .i64 Try.underlying29 hi069 Ao10 x3_1.length co10 x6_2 (of_decide_eq_true (by first | (with_reducible assumption) | assumption)) q69 hroom69
          have hr69 := Kd.C_take (m := (x6_2 : Int).toNat) hC69 (by omega)
          have hy69 : y181.length = (x6_2 : Int).toNat := (by rw [Ny181.out, List.length_take]; omega)
          rw [← Ny181.out] at hr69
          rw [← hy69] at hcut69
          have HR184 := As_ hr69
          have HC184 := As_ (show y181.length ≤ co10 from by omega)
          clear hr69 hC69 hroom69 hi069 hsz69
          have KY69 := As_ hy69
          clear hy69
          have KL69 := As_ (show (x6_2 : Int).toNat ≤ x3_1.length from by omega)
          replace q69 := eq_true q69
          refine start_ (n := 9) (S := fun w' => w'.cell? ⟨gb128, 0, none⟩ = some (.int .i64 ((rd_T87 l0_2 x14_1).f0)) ∧ w'.cell? ⟨gb128, 1, none⟩ = some (.int .i64 ((rd_T87 l0_2 x14_1).f1)) ∧ w'.cell? ⟨gb128, 2, none⟩ = some (.int .i64 ((rd_T87 l0_2 x14_1).f2))) (ds := []) #[f_,f_,f_,f_,f_,f_,f_,f_,f_] (by kernel_rfl) rfl rfl ⟨(blk_cell BK128.out 0).trans rfl, (blk_cell BK128.out 1).trans rfl, (blk_cell BK128.out 2).trans rfl⟩ (fun hHeld => ?_); refine with_tabW spec_stSides.tab8 spec_stSides.bits8 (fun HT_ HW_ => ?_)
          generalize w67.drew = w68 at HO_3 BK126 BK128 HB HR184 hHeld ⊢
          refine pure_ (i := 1) (N := some 58) (v := ?_) (a' := ?_) #[f_,t_,f_,f_,f_,f_,f_,f_,f_] rfl rfl (any_of HT_.out (by kernel_rfl)) (fun _ _ _ h => h) (Or.inl ⟨by rfl, ?_⟩) ?_ ?_; rotate_left
          · intro w'; go_simp; with_reducible rfl
          rotate_left
          · simp only [Act.put, sib_, sc0_, sc1_, i64_w, i32_w]; rfl
          refine pure_ (i := 2) (N := some 59) (v := ?_) (a' := ?_) #[f_,t_,t_,f_,f_,f_,f_,f_,f_] rfl rfl (any_of HT_.out (by kernel_rfl)) (fun _ _ _ h => h) (Or.inl ⟨by rfl, ?_⟩) ?_ ?_; rotate_left
          · intro w'; go_simp; with_reducible rfl
          rotate_left
          · simp only [Act.put, sib_, sc0_, sc1_, i64_w, i32_w]; rfl
          refine pure_ (i := 3) (N := some 60) (v := ?_) (a' := ?_) #[f_,t_,t_,t_,f_,f_,f_,f_,f_] rfl rfl (any_of HT_.out (by kernel_rfl)) (fun _ _ _ h => h) (Or.inl ⟨by rfl, ?_⟩) ?_ ?_; rotate_left
          · intro w'; go_simp; with_reducible rfl
          rotate_left
          · simp only [Act.put, sib_, sc0_, sc1_, i64_w, i32_w]; rfl
          refine take_ (i := 5) (N := some 62) (v := ?_) (a' := ?_) #[f_,t_,t_,t_,f_,t_,f_,f_,f_] rfl rfl (take_ofW HT_.out HW_.out (by kernel_rfl)) (fun _ _ _ h => h) (Or.inl ⟨by rfl, ?_⟩) hHeld ?_ ?_; rotate_left
          · rintro w' ⟨s0, s1, s2⟩
            go_simp
            with_reducible rfl
          rotate_left
          · simp only [Act.put, sib_, sc0_, sc1_, i64_w, i32_w]; rfl
          refine join_ (σ := Value × Value × Value) 2 #[t_,t_,t_,t_,t_,t_,t_,f_,f_] (fun s_ => [(57, s_.1), (61, s_.2.1), (63, s_.2.2)]) (fun s_ w' => (w'.cell? ⟨gb128, 0, none⟩ = some (.int .i64 ((rd_T87 l0_2 x14_1).f0)) ∧ w'.cell? ⟨gb128, 1, none⟩ = some (.int .i64 ((rd_T87 l0_2 x14_1).f1)) ∧ w'.cell? ⟨gb128, 2, none⟩ = some (.int .i64 ((rd_T87 l0_2 x14_1).f2))) ∧ (Kd.R k87 87 w' w.heap.size (fun k_ => some k_ ≠ (s_.2.2 : Value).ownBlock ∧ some k_ ≠ (.slice Ao10 x3_1.length co10 : Value).ownBlock ∧ k_ ≠ gb128) s_.2.1 y185) ∧ (Kd.R k87 87 w' w.heap.size (fun k_ => some k_ ≠ (s_.2.1 : Value).ownBlock ∧ some k_ ≠ (.slice Ao10 x3_1.length co10 : Value).ownBlock ∧ k_ ≠ gb128) s_.2.2 y188) ∧ (Kd.R k87 87 w' w.heap.size (fun k_ => some k_ ≠ (s_.2.1 : Value).ownBlock ∧ some k_ ≠ (s_.2.2 : Value).ownBlock ∧ k_ ≠ gb128) (.slice Ao10 x3_1.length co10) x3_1) ∧ (w'.heap[gb126]? = some (.cells #[.int .i64 a0_0, .int .i64 a0_1, .slice (some ad127) l0_2.length c0_2] 31 (0, 0))) ∧ (w'.heap[gb128]? = some (.cells #[.int .i64 ((rd_T87 l0_2 x14_1).f0), .int .i64 ((rd_T87 l0_2 x14_1).f1), .int .i64 ((rd_T87 l0_2 x14_1).f2)] 87 (0, 0))) ∧ (Below w.heap.size w w')) ?_ ?_; rotate_left
          · intro hCont
            refine two_ (i := 0) (j := 6) (Ni := some 57) (Nj := some 63) #[t_,t_,t_,t_,f_,t_,f_,f_,f_] #[f_,t_,t_,t_,f_,t_,t_,f_,f_] rfl rfl rfl rfl (two_of HT_.out (by kernel_rfl)) (by decide) (by decide) (fun K hK => ?_) (fun K hK => ?_)
            · skip
              refine Kd.R_lit_step k87 _ 87 ?hg (N := 57) ?hd (xs := ([] : List (S87))) (inner := []) (ok := fun _ => True) (okp := fun _ => True) ?hr ?hp (fun _ hk => hk) trivial (Below.refl _ _) (Nat.le_refl _) (by simp) ?_; (case hd => rfl); (case hg => rfl); (case hr => first | (go_simp; done) | (go_simp; rfl)); (case hp => exact (Reps.none _ _))
              intro v179 w70 ho71 hb hg_ hnew_; clear hg_ hnew_
              (first | rw [← Ny178.out] at ho71 | (simp only [Int.reduceToNat] at ho71; rw [← Ny178.out] at ho71))
              have HO180 := As_ (Kd.R_lower (Kd.R_newB (Kd.R_new' ho71 (Kd.R_lt (by (with_reducible repeat (first | apply Kd.R_alloc | apply Kd.R_drewN | apply Kd.R_drew)); exact HO_3.out))) (g := gb128) (o := .cells #[.int .i64 ((rd_T87 l0_2 x14_1).f0), .int .i64 ((rd_T87 l0_2 x14_1).f1), .int .i64 ((rd_T87 l0_2 x14_1).f2)] 87 (0, 0)) BK128.out) (below_size (by repeat (first | (with_reducible first | exact HB.out | apply below_alloc | apply pw_below_drewN | apply below_drew1 | refine below_setA ?_ (by assumption)) | exact HB.out))))
              replace HO_3 := As_ (Kd.R_elder' (by (with_reducible repeat (first | apply Kd.R_alloc | apply Kd.R_drewN | apply Kd.R_drew)); exact HO_3.out) (Kd.R_base ho71) hb)
              replace BK126 := As_ (blk_b hb BK126.out)
              replace BK128 := As_ (blk_b hb BK128.out)
              replace HR184 := As_ (Kd.C_below (by repeat (first | (with_reducible exact HR184.out) | (with_reducible refine Kd.C_alloc ?_ _) | (with_reducible refine Kd.C_drewN ?_ _) | (with_reducible refine Kd.C_drew ?_) | exact HR184.out)) hb)
              replace HB := As_ (below_step (by repeat (first | (with_reducible first | exact HB.out | apply below_alloc | apply pw_below_drewN | apply below_drew1 | refine below_setA ?_ (by assumption)) | exact HB.out)) hb); clear hb ho71
              refine hK.out _ _ ⟨(blk_cell BK128.out 0).trans rfl, (blk_cell BK128.out 1).trans rfl, (blk_cell BK128.out 2).trans rfl⟩ (fun hHeld => ?_); clear hK K
              refine norm_ (a' := ?_) ?_ ?_; rotate_left
              · show Act.put _ (some 57) _ = _
                simp only [Act.put, sib_, sc0_, sc1_, i64_w, i32_w]
                rfl
              refine two_ (i := 4) (j := 6) (Ni := some 61) (Nj := some 63) #[t_,t_,t_,t_,t_,t_,f_,f_,f_] #[t_,t_,t_,t_,f_,t_,t_,f_,f_] rfl rfl rfl rfl (two_of HT_.out (by kernel_rfl)) (by decide) (by decide) (fun K hK => ?_) (fun K hK => ?_)
              · skip
                refine Kd.R_append_rows_step k87 (w0 := w) w.heap.size (by rfl) (.tmp 57) (.tmp 60) 29 87 (.agg #[(.int .i64 0), (.int .i64 0), (.int .i64 0)]) 24 rfl Try.underlying29 info87 rfl (by decide) (by omega) v179 y178 y181 _ _ _ (fun k_ => some k_ ≠ (.slice Ao10 x3_1.length co10 : Value).ownBlock ∧ k_ ≠ gb128) (fun _ => False) rfl rfl ?aO ?aR (fun _ _ h => h) (fun _ h => h.elim) ?aF ?aB ?aS ?aL ?_
                (case aR => repeat (first | exact (by repeat (first | (with_reducible exact HR184.out) | (with_reducible refine Kd.C_alloc ?_ _) | (with_reducible refine Kd.C_drewN ?_ _) | (with_reducible refine Kd.C_drew ?_) | exact HR184.out)) | (with_reducible refine Kd.C_alloc ?_ _) | (with_reducible refine Kd.C_drewN ?_ _) | (with_reducible refine Kd.C_drew ?_)))
                (case aB => exact (by repeat (first | (with_reducible first | exact HB.out | apply below_alloc | apply pw_below_drewN | apply below_drew1 | refine below_setA ?_ (by assumption)) | exact HB.out)))
                (case aF => exact (fun k_ hk => ⟨Kd.fresh' (Kd.R_lt (by (with_reducible repeat (first | apply Kd.R_alloc | apply Kd.R_drewN | apply Kd.R_drew)); exact HO_3.out)) k_ hk, Kd.freshB (g := gb128) (o := .cells #[.int .i64 ((rd_T87 l0_2 x14_1).f0), .int .i64 ((rd_T87 l0_2 x14_1).f1), .int .i64 ((rd_T87 l0_2 x14_1).f2)] 87 (0, 0)) BK128.out k_ hk⟩))
                (case aO => exact (by (with_reducible repeat (first | apply Kd.R_alloc | apply Kd.R_drewN | apply Kd.R_drew)); exact Kd.R_mono HO180.out (fun _ hk => ⟨hk.1.2, hk.2⟩)))
                (case aS => exact (below_size (by repeat (first | (with_reducible first | exact HB.out | apply below_alloc | apply pw_below_drewN | apply below_drew1 | refine below_setA ?_ (by assumption)) | exact HB.out))))
                (case aL => have := LMc62.out; omega)
                intro v186 w72 ho hb hg hat
                rw [← Ny185.out] at ho
                have n0_ := As_ (Kd.R_after (ok := (fun k_ => k_ ≠ gb128)) (by (with_reducible repeat (first | apply Kd.R_alloc | apply Kd.R_drewN | apply Kd.R_drew)); exact HO_3.out) hg hat)
                have n1_ := As_ (blk_grown (g := gb126) (o := .cells #[.int .i64 a0_0, .int .i64 a0_1, .slice (some ad127) l0_2.length c0_2] 31 (0, 0)) BK126.out hg (Kd.R_ne HO180.out BK126.out (by decide)))
                have n2_ := As_ (blk_grown (g := gb128) (o := .cells #[.int .i64 ((rd_T87 l0_2 x14_1).f0), .int .i64 ((rd_T87 l0_2 x14_1).f1), .int .i64 ((rd_T87 l0_2 x14_1).f2)] 87 (0, 0)) BK128.out hg (Kd.R_away HO180.out (fun _ hk => hk.2)))
                have n3_ := As_ (hb)
                have n4_ := As_ ((show Kd.C k87 w72 Ao10 y181.length y181 from by rw [Ny181.out]; exact Kd.C_take (m := (x6_2 : Int).toNat) ((Kd.R_reads' (Kd.R_after (ok := (fun k_ => k_ ≠ gb128)) (by (with_reducible repeat (first | apply Kd.R_alloc | apply Kd.R_drewN | apply Kd.R_drew)); exact HO_3.out) hg hat)).2.2) KL69.out))
                have n5_ := As_ (ho)
                clear HO_3; clear BK126; clear BK128; clear HB; clear HR184; clear HO180
                have HO_3 := n0_
                have BK126 := n1_
                have BK128 := n2_
                have HB := n3_
                have HR184 := n4_
                have HO187 := n5_
                clear n0_ n1_ n2_ n3_ n4_ n5_; clear ho hb hg hat
                refine hK.out _ _ ⟨(blk_cell BK128.out 0).trans rfl, (blk_cell BK128.out 1).trans rfl, (blk_cell BK128.out 2).trans rfl⟩ (fun hHeld => ?_); clear hK K
                refine norm_ (a' := ?_) ?_ ?_; rotate_left
                · show Act.put _ (some 61) _ = _
                  simp only [Act.put, sib_, sc0_, sc1_, i64_w, i32_w]
                  rfl
                refine one_ (i := 6) (N := some 63) #[t_,t_,t_,t_,t_,t_,t_,f_,f_] rfl rfl (one_of HT_.out (by kernel_rfl)) (by decide) (fun K hK => ?_)
                refine Kd.R_lit_step k87 _ 87 ?hg (N := 63) ?hd (xs := ([(⟨((rd_T87 l0_2 x14_1).f0), ((rd_T87 l0_2 x14_1).f1), ((rd_T87 l0_2 x14_1).f2)⟩ : S87)] : List (S87))) (inner := [.int .i64 ((rd_T87 l0_2 x14_1).f0), .int .i64 ((rd_T87 l0_2 x14_1).f1), .int .i64 ((rd_T87 l0_2 x14_1).f2)]) (ok := fun _ => True) (okp := fun _ => True) ?hr ?hp (fun _ hk => hk) trivial (Below.refl _ _) (Nat.le_refl _) (by simp) ?_; (case hd => rfl); (case hg => rfl); (case hr => first | (go_simp; done) | (go_simp; rfl)); (case hp => exact (Reps.c3 (show Kd.M k87 _ _ _ (⟨((rd_T87 l0_2 x14_1).f0), ((rd_T87 l0_2 x14_1).f1), ((rd_T87 l0_2 x14_1).f2)⟩ : S87) [.int .i64 ((rd_T87 l0_2 x14_1).f0), .int .i64 ((rd_T87 l0_2 x14_1).f1), .int .i64 ((rd_T87 l0_2 x14_1).f2)] from (k87_mkM _ _ _ (⟨((rd_T87 l0_2 x14_1).f0), ((rd_T87 l0_2 x14_1).f1), ((rd_T87 l0_2 x14_1).f2)⟩ : S87) )) (Reps.none _ _)))
                intro v189 w73 ho74 hb hg_ hnew_; clear hg_ hnew_
                (first | rw [← Ny188.out] at ho74 | (simp only [Int.reduceToNat] at ho74; rw [← Ny188.out] at ho74))
                have HO190 := As_ (Kd.R_lower (Kd.R_newB (Kd.R_new' (Kd.R_new' ho74 (Kd.R_lt (by (with_reducible repeat (first | apply Kd.R_alloc | apply Kd.R_drewN | apply Kd.R_drew)); exact HO_3.out))) (Kd.R_lt (by (with_reducible repeat (first | apply Kd.R_alloc | apply Kd.R_drewN | apply Kd.R_drew)); exact HO187.out))) (g := gb128) (o := .cells #[.int .i64 ((rd_T87 l0_2 x14_1).f0), .int .i64 ((rd_T87 l0_2 x14_1).f1), .int .i64 ((rd_T87 l0_2 x14_1).f2)] 87 (0, 0)) BK128.out) (below_size (by repeat (first | (with_reducible first | exact HB.out | apply below_alloc | apply pw_below_drewN | apply below_drew1 | refine below_setA ?_ (by assumption)) | exact HB.out))))
                replace HO_3 := As_ (Kd.R_elder' (by (with_reducible repeat (first | apply Kd.R_alloc | apply Kd.R_drewN | apply Kd.R_drew)); exact HO_3.out) (Kd.R_base ho74) hb)
                replace HO187 := As_ (Kd.R_elder' (by (with_reducible repeat (first | apply Kd.R_alloc | apply Kd.R_drewN | apply Kd.R_drew)); exact HO187.out) (Kd.R_base ho74) hb)
                replace BK126 := As_ (blk_b hb BK126.out)
                replace BK128 := As_ (blk_b hb BK128.out)
                replace HR184 := As_ (Kd.C_below (by repeat (first | (with_reducible exact HR184.out) | (with_reducible refine Kd.C_alloc ?_ _) | (with_reducible refine Kd.C_drewN ?_ _) | (with_reducible refine Kd.C_drew ?_) | exact HR184.out)) hb)
                replace HB := As_ (below_step (by repeat (first | (with_reducible first | exact HB.out | apply below_alloc | apply pw_below_drewN | apply below_drew1 | refine below_setA ?_ (by assumption)) | exact HB.out)) hb); clear hb ho74
                refine hK.out _ _ ⟨(blk_cell BK128.out 0).trans rfl, (blk_cell BK128.out 1).trans rfl, (blk_cell BK128.out 2).trans rfl⟩ (fun hHeld => ?_); clear hK K
                refine norm_ (a' := ?_) ?_ ?_; rotate_left
                · show Act.put _ (some 63) _ = _
                  simp only [Act.put, sib_, sc0_, sc1_, i64_w, i32_w]
                  rfl
                exact norm_ (by simp only [putAll, Act.put, sib_, sc0_, sc1_]) (hCont (v179, v186, v189) _ ⟨hHeld, (by (with_reducible repeat (first | apply Kd.R_alloc | apply Kd.R_drewN | apply Kd.R_drew)); exact Kd.R_mono HO187.out (fun _ hk => ⟨hk.2, ⟨hk.1.1, hk.1.2⟩⟩)), (by (with_reducible repeat (first | apply Kd.R_alloc | apply Kd.R_drewN | apply Kd.R_drew)); exact Kd.R_mono HO190.out (fun _ hk => ⟨hk.1.2, ⟨hk.1.1.2, hk.2⟩⟩)), (by (with_reducible repeat (first | apply Kd.R_alloc | apply Kd.R_drewN | apply Kd.R_drew)); exact Kd.R_mono HO_3.out (fun _ hk => ⟨hk.1.2, ⟨hk.2, hk.1.1⟩⟩)), BK126.out, BK128.out, (by repeat (first | (with_reducible first | exact HB.out | apply below_alloc | apply pw_below_drewN | apply below_drew1 | refine below_setA ?_ (by assumption)) | exact HB.out))⟩)
              · skip
                refine Kd.R_lit_step k87 _ 87 ?hg (N := 63) ?hd (xs := ([(⟨((rd_T87 l0_2 x14_1).f0), ((rd_T87 l0_2 x14_1).f1), ((rd_T87 l0_2 x14_1).f2)⟩ : S87)] : List (S87))) (inner := [.int .i64 ((rd_T87 l0_2 x14_1).f0), .int .i64 ((rd_T87 l0_2 x14_1).f1), .int .i64 ((rd_T87 l0_2 x14_1).f2)]) (ok := fun _ => True) (okp := fun _ => True) ?hr ?hp (fun _ hk => hk) trivial (Below.refl _ _) (Nat.le_refl _) (by simp) ?_; (case hd => rfl); (case hg => rfl); (case hr => first | (go_simp; done) | (go_simp; rfl)); (case hp => exact (Reps.c3 (show Kd.M k87 _ _ _ (⟨((rd_T87 l0_2 x14_1).f0), ((rd_T87 l0_2 x14_1).f1), ((rd_T87 l0_2 x14_1).f2)⟩ : S87) [.int .i64 ((rd_T87 l0_2 x14_1).f0), .int .i64 ((rd_T87 l0_2 x14_1).f1), .int .i64 ((rd_T87 l0_2 x14_1).f2)] from (k87_mkM _ _ _ (⟨((rd_T87 l0_2 x14_1).f0), ((rd_T87 l0_2 x14_1).f1), ((rd_T87 l0_2 x14_1).f2)⟩ : S87) )) (Reps.none _ _)))
                intro v189 w72 ho73 hb hg_ hnew_; clear hg_ hnew_
                (first | rw [← Ny188.out] at ho73 | (simp only [Int.reduceToNat] at ho73; rw [← Ny188.out] at ho73))
                have HO190 := As_ (Kd.R_lower (Kd.R_newB (Kd.R_new' (Kd.R_new' ho73 (Kd.R_lt (by (with_reducible repeat (first | apply Kd.R_alloc | apply Kd.R_drewN | apply Kd.R_drew)); exact HO_3.out))) (Kd.R_lt (by (with_reducible repeat (first | apply Kd.R_alloc | apply Kd.R_drewN | apply Kd.R_drew)); exact HO180.out))) (g := gb128) (o := .cells #[.int .i64 ((rd_T87 l0_2 x14_1).f0), .int .i64 ((rd_T87 l0_2 x14_1).f1), .int .i64 ((rd_T87 l0_2 x14_1).f2)] 87 (0, 0)) BK128.out) (below_size (by repeat (first | (with_reducible first | exact HB.out | apply below_alloc | apply pw_below_drewN | apply below_drew1 | refine below_setA ?_ (by assumption)) | exact HB.out))))
                replace HO_3 := As_ (Kd.R_elder' (by (with_reducible repeat (first | apply Kd.R_alloc | apply Kd.R_drewN | apply Kd.R_drew)); exact HO_3.out) (Kd.R_base ho73) hb)
                replace HO180 := As_ (Kd.R_elder' (by (with_reducible repeat (first | apply Kd.R_alloc | apply Kd.R_drewN | apply Kd.R_drew)); exact HO180.out) (Kd.R_base ho73) hb)
                replace BK126 := As_ (blk_b hb BK126.out)
                replace BK128 := As_ (blk_b hb BK128.out)
                replace HR184 := As_ (Kd.C_below (by repeat (first | (with_reducible exact HR184.out) | (with_reducible refine Kd.C_alloc ?_ _) | (with_reducible refine Kd.C_drewN ?_ _) | (with_reducible refine Kd.C_drew ?_) | exact HR184.out)) hb)
                replace HB := As_ (below_step (by repeat (first | (with_reducible first | exact HB.out | apply below_alloc | apply pw_below_drewN | apply below_drew1 | refine below_setA ?_ (by assumption)) | exact HB.out)) hb); clear hb ho73
                refine hK.out _ _ ⟨(blk_cell BK128.out 0).trans rfl, (blk_cell BK128.out 1).trans rfl, (blk_cell BK128.out 2).trans rfl⟩ (fun hHeld => ?_); clear hK K
                refine norm_ (a' := ?_) ?_ ?_; rotate_left
                · show Act.put _ (some 63) _ = _
                  simp only [Act.put, sib_, sc0_, sc1_, i64_w, i32_w]
                  rfl
                refine one_ (i := 4) (N := some 61) #[t_,t_,t_,t_,t_,t_,t_,f_,f_] rfl rfl (one_of HT_.out (by kernel_rfl)) (by decide) (fun K hK => ?_)
                refine Kd.R_append_rows_step k87 (w0 := w) w.heap.size (by rfl) (.tmp 57) (.tmp 60) 29 87 (.agg #[(.int .i64 0), (.int .i64 0), (.int .i64 0)]) 24 rfl Try.underlying29 info87 rfl (by decide) (by omega) v179 y178 y181 _ _ _ (fun k_ => some k_ ≠ (.slice Ao10 x3_1.length co10 : Value).ownBlock ∧ some k_ ≠ (v189 : Value).ownBlock ∧ k_ ≠ gb128) (fun _ => False) rfl rfl ?aO ?aR (fun _ _ h => h) (fun _ h => h.elim) ?aF ?aB ?aS ?aL ?_
                (case aR => repeat (first | exact (by repeat (first | (with_reducible exact HR184.out) | (with_reducible refine Kd.C_alloc ?_ _) | (with_reducible refine Kd.C_drewN ?_ _) | (with_reducible refine Kd.C_drew ?_) | exact HR184.out)) | (with_reducible refine Kd.C_alloc ?_ _) | (with_reducible refine Kd.C_drewN ?_ _) | (with_reducible refine Kd.C_drew ?_)))
                (case aB => exact (by repeat (first | (with_reducible first | exact HB.out | apply below_alloc | apply pw_below_drewN | apply below_drew1 | refine below_setA ?_ (by assumption)) | exact HB.out)))
                (case aF => exact (fun k_ hk => ⟨Kd.fresh' (Kd.R_lt (by (with_reducible repeat (first | apply Kd.R_alloc | apply Kd.R_drewN | apply Kd.R_drew)); exact HO_3.out)) k_ hk, Kd.fresh' (Kd.R_lt (by (with_reducible repeat (first | apply Kd.R_alloc | apply Kd.R_drewN | apply Kd.R_drew)); exact HO190.out)) k_ hk, Kd.freshB (g := gb128) (o := .cells #[.int .i64 ((rd_T87 l0_2 x14_1).f0), .int .i64 ((rd_T87 l0_2 x14_1).f1), .int .i64 ((rd_T87 l0_2 x14_1).f2)] 87 (0, 0)) BK128.out k_ hk⟩))
                (case aO => exact (by (with_reducible repeat (first | apply Kd.R_alloc | apply Kd.R_drewN | apply Kd.R_drew)); exact Kd.R_mono HO180.out (fun _ hk => ⟨hk.1.1.2, ⟨hk.2, hk.1.2⟩⟩)))
                (case aS => exact (below_size (by repeat (first | (with_reducible first | exact HB.out | apply below_alloc | apply pw_below_drewN | apply below_drew1 | refine below_setA ?_ (by assumption)) | exact HB.out))))
                (case aL => have := LMc62.out; omega)
                intro v186 w74 ho hb hg hat
                rw [← Ny185.out] at ho
                have n0_ := As_ (Kd.R_after (ok := (fun k_ => some k_ ≠ (v189 : Value).ownBlock ∧ k_ ≠ gb128)) (by (with_reducible repeat (first | apply Kd.R_alloc | apply Kd.R_drewN | apply Kd.R_drew)); exact Kd.R_mono HO_3.out (fun _ hk => ⟨⟨hk.2, hk.1.1⟩, hk.1.2⟩)) hg hat)
                have n1_ := As_ (blk_grown (g := gb126) (o := .cells #[.int .i64 a0_0, .int .i64 a0_1, .slice (some ad127) l0_2.length c0_2] 31 (0, 0)) BK126.out hg (Kd.R_ne HO180.out BK126.out (by decide)))
                have n2_ := As_ (blk_grown (g := gb128) (o := .cells #[.int .i64 ((rd_T87 l0_2 x14_1).f0), .int .i64 ((rd_T87 l0_2 x14_1).f1), .int .i64 ((rd_T87 l0_2 x14_1).f2)] 87 (0, 0)) BK128.out hg (Kd.R_away HO180.out (fun _ hk => hk.1.2)))
                have n3_ := As_ (Kd.R_after (ok := (fun k_ => some k_ ≠ (.slice Ao10 x3_1.length co10 : Value).ownBlock ∧ k_ ≠ gb128)) (by (with_reducible repeat (first | apply Kd.R_alloc | apply Kd.R_drewN | apply Kd.R_drew)); exact Kd.R_mono HO190.out (fun _ hk => ⟨⟨hk.1.1.2, hk.2⟩, hk.1.2⟩)) hg hat)
                have n4_ := As_ (hb)
                have n5_ := As_ ((show Kd.C k87 w74 Ao10 y181.length y181 from by rw [Ny181.out]; exact Kd.C_take (m := (x6_2 : Int).toNat) ((Kd.R_reads' (Kd.R_after (ok := (fun k_ => some k_ ≠ (v189 : Value).ownBlock ∧ k_ ≠ gb128)) (by (with_reducible repeat (first | apply Kd.R_alloc | apply Kd.R_drewN | apply Kd.R_drew)); exact Kd.R_mono HO_3.out (fun _ hk => ⟨⟨hk.2, hk.1.1⟩, hk.1.2⟩)) hg hat)).2.2) KL69.out))
                have n6_ := As_ (ho)
                clear HO_3; clear BK126; clear BK128; clear HO190; clear HB; clear HR184; clear HO180
                have HO_3 := n0_
                have BK126 := n1_
                have BK128 := n2_
                have HO190 := n3_
                have HB := n4_
                have HR184 := n5_
                have HO187 := n6_
                clear n0_ n1_ n2_ n3_ n4_ n5_ n6_; clear ho hb hg hat
                refine hK.out _ _ ⟨(blk_cell BK128.out 0).trans rfl, (blk_cell BK128.out 1).trans rfl, (blk_cell BK128.out 2).trans rfl⟩ (fun hHeld => ?_); clear hK K
                refine norm_ (a' := ?_) ?_ ?_; rotate_left
                · show Act.put _ (some 61) _ = _
                  simp only [Act.put, sib_, sc0_, sc1_, i64_w, i32_w]
                  rfl
                exact norm_ (by simp only [putAll, Act.put, sib_, sc0_, sc1_]) (hCont (v179, v186, v189) _ ⟨hHeld, (by (with_reducible repeat (first | apply Kd.R_alloc | apply Kd.R_drewN | apply Kd.R_drew)); exact Kd.R_mono HO187.out (fun _ hk => ⟨hk.2.1, ⟨hk.1, hk.2.2⟩⟩)), (by (with_reducible repeat (first | apply Kd.R_alloc | apply Kd.R_drewN | apply Kd.R_drew)); exact Kd.R_mono HO190.out (fun _ hk => ⟨hk.2, ⟨hk.1.1, hk.1.2⟩⟩)), (by (with_reducible repeat (first | apply Kd.R_alloc | apply Kd.R_drewN | apply Kd.R_drew)); exact Kd.R_mono HO_3.out (fun _ hk => ⟨hk.2, ⟨hk.1.1, hk.1.2⟩⟩)), BK126.out, BK128.out, (by repeat (first | (with_reducible first | exact HB.out | apply below_alloc | apply pw_below_drewN | apply below_drew1 | refine below_setA ?_ (by assumption)) | exact HB.out))⟩)
            · skip
              refine Kd.R_lit_step k87 _ 87 ?hg (N := 63) ?hd (xs := ([(⟨((rd_T87 l0_2 x14_1).f0), ((rd_T87 l0_2 x14_1).f1), ((rd_T87 l0_2 x14_1).f2)⟩ : S87)] : List (S87))) (inner := [.int .i64 ((rd_T87 l0_2 x14_1).f0), .int .i64 ((rd_T87 l0_2 x14_1).f1), .int .i64 ((rd_T87 l0_2 x14_1).f2)]) (ok := fun _ => True) (okp := fun _ => True) ?hr ?hp (fun _ hk => hk) trivial (Below.refl _ _) (Nat.le_refl _) (by simp) ?_; (case hd => rfl); (case hg => rfl); (case hr => first | (go_simp; done) | (go_simp; rfl)); (case hp => exact (Reps.c3 (show Kd.M k87 _ _ _ (⟨((rd_T87 l0_2 x14_1).f0), ((rd_T87 l0_2 x14_1).f1), ((rd_T87 l0_2 x14_1).f2)⟩ : S87) [.int .i64 ((rd_T87 l0_2 x14_1).f0), .int .i64 ((rd_T87 l0_2 x14_1).f1), .int .i64 ((rd_T87 l0_2 x14_1).f2)] from (k87_mkM _ _ _ (⟨((rd_T87 l0_2 x14_1).f0), ((rd_T87 l0_2 x14_1).f1), ((rd_T87 l0_2 x14_1).f2)⟩ : S87) )) (Reps.none _ _)))
              intro v189 w70 ho71 hb hg_ hnew_; clear hg_ hnew_
              (first | rw [← Ny188.out] at ho71 | (simp only [Int.reduceToNat] at ho71; rw [← Ny188.out] at ho71))
              have HO190 := As_ (Kd.R_lower (Kd.R_newB (Kd.R_new' ho71 (Kd.R_lt (by (with_reducible repeat (first | apply Kd.R_alloc | apply Kd.R_drewN | apply Kd.R_drew)); exact HO_3.out))) (g := gb128) (o := .cells #[.int .i64 ((rd_T87 l0_2 x14_1).f0), .int .i64 ((rd_T87 l0_2 x14_1).f1), .int .i64 ((rd_T87 l0_2 x14_1).f2)] 87 (0, 0)) BK128.out) (below_size (by repeat (first | (with_reducible first | exact HB.out | apply below_alloc | apply pw_below_drewN | apply below_drew1 | refine below_setA ?_ (by assumption)) | exact HB.out))))
              replace HO_3 := As_ (Kd.R_elder' (by (with_reducible repeat (first | apply Kd.R_alloc | apply Kd.R_drewN | apply Kd.R_drew)); exact HO_3.out) (Kd.R_base ho71) hb)
              replace BK126 := As_ (blk_b hb BK126.out)
              replace BK128 := As_ (blk_b hb BK128.out)
              replace HR184 := As_ (Kd.C_below (by repeat (first | (with_reducible exact HR184.out) | (with_reducible refine Kd.C_alloc ?_ _) | (with_reducible refine Kd.C_drewN ?_ _) | (with_reducible refine Kd.C_drew ?_) | exact HR184.out)) hb)
              replace HB := As_ (below_step (by repeat (first | (with_reducible first | exact HB.out | apply below_alloc | apply pw_below_drewN | apply below_drew1 | refine below_setA ?_ (by assumption)) | exact HB.out)) hb); clear hb ho71
              refine hK.out _ _ ⟨(blk_cell BK128.out 0).trans rfl, (blk_cell BK128.out 1).trans rfl, (blk_cell BK128.out 2).trans rfl⟩ (fun hHeld => ?_); clear hK K
              refine norm_ (a' := ?_) ?_ ?_; rotate_left
              · show Act.put _ (some 63) _ = _
                simp only [Act.put, sib_, sc0_, sc1_, i64_w, i32_w]
                rfl
              refine one_ (i := 0) (N := some 57) #[t_,t_,t_,t_,f_,t_,t_,f_,f_] rfl rfl (one_of HT_.out (by kernel_rfl)) (by decide) (fun K hK => ?_)
              refine Kd.R_lit_step k87 _ 87 ?hg (N := 57) ?hd (xs := ([] : List (S87))) (inner := []) (ok := fun _ => True) (okp := fun _ => True) ?hr ?hp (fun _ hk => hk) trivial (Below.refl _ _) (Nat.le_refl _) (by simp) ?_; (case hd => rfl); (case hg => rfl); (case hr => first | (go_simp; done) | (go_simp; rfl)); (case hp => exact (Reps.none _ _))
              intro v179 w72 ho73 hb hg_ hnew_; clear hg_ hnew_
              (first | rw [← Ny178.out] at ho73 | (simp only [Int.reduceToNat] at ho73; rw [← Ny178.out] at ho73))
              have HO180 := As_ (Kd.R_lower (Kd.R_newB (Kd.R_new' (Kd.R_new' ho73 (Kd.R_lt (by (with_reducible repeat (first | apply Kd.R_alloc | apply Kd.R_drewN | apply Kd.R_drew)); exact HO_3.out))) (Kd.R_lt (by (with_reducible repeat (first | apply Kd.R_alloc | apply Kd.R_drewN | apply Kd.R_drew)); exact HO190.out))) (g := gb128) (o := .cells #[.int .i64 ((rd_T87 l0_2 x14_1).f0), .int .i64 ((rd_T87 l0_2 x14_1).f1), .int .i64 ((rd_T87 l0_2 x14_1).f2)] 87 (0, 0)) BK128.out) (below_size (by repeat (first | (with_reducible first | exact HB.out | apply below_alloc | apply pw_below_drewN | apply below_drew1 | refine below_setA ?_ (by assumption)) | exact HB.out))))
              replace HO_3 := As_ (Kd.R_elder' (by (with_reducible repeat (first | apply Kd.R_alloc | apply Kd.R_drewN | apply Kd.R_drew)); exact HO_3.out) (Kd.R_base ho73) hb)
              replace HO190 := As_ (Kd.R_elder' (by (with_reducible repeat (first | apply Kd.R_alloc | apply Kd.R_drewN | apply Kd.R_drew)); exact HO190.out) (Kd.R_base ho73) hb)
              replace BK126 := As_ (blk_b hb BK126.out)
              replace BK128 := As_ (blk_b hb BK128.out)
              replace HR184 := As_ (Kd.C_below (by repeat (first | (with_reducible exact HR184.out) | (with_reducible refine Kd.C_alloc ?_ _) | (with_reducible refine Kd.C_drewN ?_ _) | (with_reducible refine Kd.C_drew ?_) | exact HR184.out)) hb)
              replace HB := As_ (below_step (by repeat (first | (with_reducible first | exact HB.out | apply below_alloc | apply pw_below_drewN | apply below_drew1 | refine below_setA ?_ (by assumption)) | exact HB.out)) hb); clear hb ho73
              refine hK.out _ _ ⟨(blk_cell BK128.out 0).trans rfl, (blk_cell BK128.out 1).trans rfl, (blk_cell BK128.out 2).trans rfl⟩ (fun hHeld => ?_); clear hK K
              refine norm_ (a' := ?_) ?_ ?_; rotate_left
              · show Act.put _ (some 57) _ = _
                simp only [Act.put, sib_, sc0_, sc1_, i64_w, i32_w]
                rfl
              refine one_ (i := 4) (N := some 61) #[t_,t_,t_,t_,t_,t_,t_,f_,f_] rfl rfl (one_of HT_.out (by kernel_rfl)) (by decide) (fun K hK => ?_)
              refine Kd.R_append_rows_step k87 (w0 := w) w.heap.size (by rfl) (.tmp 57) (.tmp 60) 29 87 (.agg #[(.int .i64 0), (.int .i64 0), (.int .i64 0)]) 24 rfl Try.underlying29 info87 rfl (by decide) (by omega) v179 y178 y181 _ _ _ (fun k_ => some k_ ≠ (.slice Ao10 x3_1.length co10 : Value).ownBlock ∧ some k_ ≠ (v189 : Value).ownBlock ∧ k_ ≠ gb128) (fun _ => False) rfl rfl ?aO ?aR (fun _ _ h => h) (fun _ h => h.elim) ?aF ?aB ?aS ?aL ?_
              (case aR => repeat (first | exact (by repeat (first | (with_reducible exact HR184.out) | (with_reducible refine Kd.C_alloc ?_ _) | (with_reducible refine Kd.C_drewN ?_ _) | (with_reducible refine Kd.C_drew ?_) | exact HR184.out)) | (with_reducible refine Kd.C_alloc ?_ _) | (with_reducible refine Kd.C_drewN ?_ _) | (with_reducible refine Kd.C_drew ?_)))
              (case aB => exact (by repeat (first | (with_reducible first | exact HB.out | apply below_alloc | apply pw_below_drewN | apply below_drew1 | refine below_setA ?_ (by assumption)) | exact HB.out)))
              (case aF => exact (fun k_ hk => ⟨Kd.fresh' (Kd.R_lt (by (with_reducible repeat (first | apply Kd.R_alloc | apply Kd.R_drewN | apply Kd.R_drew)); exact HO_3.out)) k_ hk, Kd.fresh' (Kd.R_lt (by (with_reducible repeat (first | apply Kd.R_alloc | apply Kd.R_drewN | apply Kd.R_drew)); exact HO190.out)) k_ hk, Kd.freshB (g := gb128) (o := .cells #[.int .i64 ((rd_T87 l0_2 x14_1).f0), .int .i64 ((rd_T87 l0_2 x14_1).f1), .int .i64 ((rd_T87 l0_2 x14_1).f2)] 87 (0, 0)) BK128.out k_ hk⟩))
              (case aO => exact (by (with_reducible repeat (first | apply Kd.R_alloc | apply Kd.R_drewN | apply Kd.R_drew)); exact Kd.R_mono HO180.out (fun _ hk => ⟨hk.1.1.2, ⟨hk.1.2, hk.2⟩⟩)))
              (case aS => exact (below_size (by repeat (first | (with_reducible first | exact HB.out | apply below_alloc | apply pw_below_drewN | apply below_drew1 | refine below_setA ?_ (by assumption)) | exact HB.out))))
              (case aL => have := LMc62.out; omega)
              intro v186 w74 ho hb hg hat
              rw [← Ny185.out] at ho
              have n0_ := As_ (Kd.R_after (ok := (fun k_ => some k_ ≠ (v189 : Value).ownBlock ∧ k_ ≠ gb128)) (by (with_reducible repeat (first | apply Kd.R_alloc | apply Kd.R_drewN | apply Kd.R_drew)); exact Kd.R_mono HO_3.out (fun _ hk => ⟨⟨hk.1.2, hk.1.1⟩, hk.2⟩)) hg hat)
              have n1_ := As_ (blk_grown (g := gb126) (o := .cells #[.int .i64 a0_0, .int .i64 a0_1, .slice (some ad127) l0_2.length c0_2] 31 (0, 0)) BK126.out hg (Kd.R_ne HO180.out BK126.out (by decide)))
              have n2_ := As_ (blk_grown (g := gb128) (o := .cells #[.int .i64 ((rd_T87 l0_2 x14_1).f0), .int .i64 ((rd_T87 l0_2 x14_1).f1), .int .i64 ((rd_T87 l0_2 x14_1).f2)] 87 (0, 0)) BK128.out hg (Kd.R_away HO180.out (fun _ hk => hk.2)))
              have n3_ := As_ (Kd.R_after (ok := (fun k_ => some k_ ≠ (.slice Ao10 x3_1.length co10 : Value).ownBlock ∧ k_ ≠ gb128)) (by (with_reducible repeat (first | apply Kd.R_alloc | apply Kd.R_drewN | apply Kd.R_drew)); exact Kd.R_mono HO190.out (fun _ hk => ⟨⟨hk.1.1.2, hk.1.2⟩, hk.2⟩)) hg hat)
              have n4_ := As_ (hb)
              have n5_ := As_ ((show Kd.C k87 w74 Ao10 y181.length y181 from by rw [Ny181.out]; exact Kd.C_take (m := (x6_2 : Int).toNat) ((Kd.R_reads' (Kd.R_after (ok := (fun k_ => some k_ ≠ (v189 : Value).ownBlock ∧ k_ ≠ gb128)) (by (with_reducible repeat (first | apply Kd.R_alloc | apply Kd.R_drewN | apply Kd.R_drew)); exact Kd.R_mono HO_3.out (fun _ hk => ⟨⟨hk.1.2, hk.1.1⟩, hk.2⟩)) hg hat)).2.2) KL69.out))
              have n6_ := As_ (ho)
              clear HO_3; clear BK126; clear BK128; clear HO190; clear HB; clear HR184; clear HO180
              have HO_3 := n0_
              have BK126 := n1_
              have BK128 := n2_
              have HO190 := n3_
              have HB := n4_
              have HR184 := n5_
              have HO187 := n6_
              clear n0_ n1_ n2_ n3_ n4_ n5_ n6_; clear ho hb hg hat
              refine hK.out _ _ ⟨(blk_cell BK128.out 0).trans rfl, (blk_cell BK128.out 1).trans rfl, (blk_cell BK128.out 2).trans rfl⟩ (fun hHeld => ?_); clear hK K
              refine norm_ (a' := ?_) ?_ ?_; rotate_left
              · show Act.put _ (some 61) _ = _
                simp only [Act.put, sib_, sc0_, sc1_, i64_w, i32_w]
                rfl
              exact norm_ (by simp only [putAll, Act.put, sib_, sc0_, sc1_]) (hCont (v179, v186, v189) _ ⟨hHeld, (by (with_reducible repeat (first | apply Kd.R_alloc | apply Kd.R_drewN | apply Kd.R_drew)); exact Kd.R_mono HO187.out (fun _ hk => ⟨hk.2.1, ⟨hk.1, hk.2.2⟩⟩)), (by (with_reducible repeat (first | apply Kd.R_alloc | apply Kd.R_drewN | apply Kd.R_drew)); exact Kd.R_mono HO190.out (fun _ hk => ⟨hk.2, ⟨hk.1.1, hk.1.2⟩⟩)), (by (with_reducible repeat (first | apply Kd.R_alloc | apply Kd.R_drewN | apply Kd.R_drew)); exact Kd.R_mono HO_3.out (fun _ hk => ⟨hk.2, ⟨hk.1.1, hk.1.2⟩⟩)), BK126.out, BK128.out, (by repeat (first | (with_reducible first | exact HB.out | apply below_alloc | apply pw_below_drewN | apply below_drew1 | refine below_setA ?_ (by assumption)) | exact HB.out))⟩)
          rintro ⟨v179, v186, v189⟩ w75 ⟨hS_, h0_, h1_, h2_, h3_, h4_, h5_⟩
          have n0_ : Aside0 (Kd.R k87 87 w75 w.heap.size (fun k_ => some k_ ≠ (v189 : Value).ownBlock ∧ some k_ ≠ (.slice Ao10 x3_1.length co10 : Value).ownBlock ∧ k_ ≠ gb128) v186 y185) := ⟨h0_⟩
          have n1_ : Aside0 (Kd.R k87 87 w75 w.heap.size (fun k_ => some k_ ≠ (v186 : Value).ownBlock ∧ some k_ ≠ (.slice Ao10 x3_1.length co10 : Value).ownBlock ∧ k_ ≠ gb128) v189 y188) := ⟨h1_⟩
          have n2_ : Aside0 (Kd.R k87 87 w75 w.heap.size (fun k_ => some k_ ≠ (v186 : Value).ownBlock ∧ some k_ ≠ (v189 : Value).ownBlock ∧ k_ ≠ gb128) (.slice Ao10 x3_1.length co10) x3_1) := ⟨h2_⟩
          have n3_ : Aside0 (w75.heap[gb126]? = some (.cells #[.int .i64 a0_0, .int .i64 a0_1, .slice (some ad127) l0_2.length c0_2] 31 (0, 0))) := ⟨h3_⟩
          have n4_ : Aside0 (w75.heap[gb128]? = some (.cells #[.int .i64 ((rd_T87 l0_2 x14_1).f0), .int .i64 ((rd_T87 l0_2 x14_1).f1), .int .i64 ((rd_T87 l0_2 x14_1).f2)] 87 (0, 0))) := ⟨h4_⟩
          have n5_ : Aside0 (Below w.heap.size w w75) := ⟨h5_⟩
          clear HO_3; clear BK126; clear BK128; clear HB; clear h0_ h1_ h2_ h3_ h4_ h5_
          have HO187 := n0_
          have HO190 := n1_
          have HO_3 := n2_
          have BK126 := n3_
          have BK128 := n4_
          have HB := n5_
          clear n0_ n1_ n2_ n3_ n4_ n5_
          have hHeld : w75.cell? ⟨gb128, 0, none⟩ = some (.int .i64 ((rd_T87 l0_2 x14_1).f0)) ∧ w75.cell? ⟨gb128, 1, none⟩ = some (.int .i64 ((rd_T87 l0_2 x14_1).f1)) ∧ w75.cell? ⟨gb128, 2, none⟩ = some (.int .i64 ((rd_T87 l0_2 x14_1).f2)) := hS_
          obtain ⟨Ao77, co77, eo77⟩ := Kd.R_slice HO190.out
          (first | subst eo77 | (injection eo77 with f1_ f2_ f3_; have f4_ := f1_.symm; have f5_ := f3_.symm; clear f1_ f2_ f3_; subst f4_; subst f5_))
          refine norm_ (a' := ?_) ?_ ?_; rotate_left
          · simp only [putAll, Act.put, sib_, sc0_, sc1_]; rfl
          refine one_ (i := 7) (N := some 64) #[t_,t_,t_,t_,t_,t_,t_,t_,f_] rfl rfl (one_of HT_.out (by kernel_rfl)) (by decide) (fun K hK => ?_)
          refine Kd.R_append_rows_step k87 (w0 := w) w.heap.size (by rfl) (.tmp 61) (.tmp 63) 29 87 (.agg #[(.int .i64 0), (.int .i64 0), (.int .i64 0)]) 24 rfl Try.underlying29 info87 rfl (by decide) (by omega) v186 y185 y188 _ _ _ (fun k_ => some k_ ≠ (.slice Ao10 x3_1.length co10 : Value).ownBlock ∧ some k_ ≠ (.slice Ao77 y188.length co77 : Value).ownBlock ∧ k_ ≠ gb128) (fun _ => False) rfl rfl ?aO ?aR (fun _ _ h => h) (fun _ h => h.elim) ?aF ?aB ?aS ?aL ?_
          (case aR => repeat (first | exact (Kd.R_reads' HO190.out).2.2 | (with_reducible refine Kd.C_alloc ?_ _) | (with_reducible refine Kd.C_drewN ?_ _) | (with_reducible refine Kd.C_drew ?_)))
          (case aB => exact (by repeat (first | (with_reducible first | exact HB.out | apply below_alloc | apply pw_below_drewN | apply below_drew1 | refine below_setA ?_ (by assumption)) | exact HB.out)))
          (case aF => exact (fun k_ hk => ⟨Kd.fresh' (Kd.R_lt (by (with_reducible repeat (first | apply Kd.R_alloc | apply Kd.R_drewN | apply Kd.R_drew)); exact HO_3.out)) k_ hk, Kd.fresh' (Kd.R_lt (by (with_reducible repeat (first | apply Kd.R_alloc | apply Kd.R_drewN | apply Kd.R_drew)); exact HO190.out)) k_ hk, Kd.freshB (g := gb128) (o := .cells #[.int .i64 ((rd_T87 l0_2 x14_1).f0), .int .i64 ((rd_T87 l0_2 x14_1).f1), .int .i64 ((rd_T87 l0_2 x14_1).f2)] 87 (0, 0)) BK128.out k_ hk⟩))
          (case aO => exact (by (with_reducible repeat (first | apply Kd.R_alloc | apply Kd.R_drewN | apply Kd.R_drew)); exact Kd.R_mono HO187.out (fun _ hk => ⟨hk.2.1, ⟨hk.1, hk.2.2⟩⟩)))
          (case aS => exact (below_size (by repeat (first | (with_reducible first | exact HB.out | apply below_alloc | apply pw_below_drewN | apply below_drew1 | refine below_setA ?_ (by assumption)) | exact HB.out))))
          (case aL => have := LMc63.out; omega)
          intro v192 w76 ho hb hg hat
          rw [← Ny191.out] at ho
          have n0_ := As_ (Kd.R_after (ok := (fun k_ => some k_ ≠ (.slice Ao77 y188.length co77 : Value).ownBlock ∧ k_ ≠ gb128)) (by (with_reducible repeat (first | apply Kd.R_alloc | apply Kd.R_drewN | apply Kd.R_drew)); exact Kd.R_mono HO_3.out (fun _ hk => ⟨⟨hk.2.1, hk.2.2⟩, hk.1⟩)) hg hat)
          have n1_ := As_ (blk_grown (g := gb126) (o := .cells #[.int .i64 a0_0, .int .i64 a0_1, .slice (some ad127) l0_2.length c0_2] 31 (0, 0)) BK126.out hg (Kd.R_ne HO187.out BK126.out (by decide)))
          have n2_ := As_ (blk_grown (g := gb128) (o := .cells #[.int .i64 ((rd_T87 l0_2 x14_1).f0), .int .i64 ((rd_T87 l0_2 x14_1).f1), .int .i64 ((rd_T87 l0_2 x14_1).f2)] 87 (0, 0)) BK128.out hg (Kd.R_away HO187.out (fun _ hk => hk.2.2)))
          have n3_ := As_ (Kd.R_after (ok := (fun k_ => some k_ ≠ (.slice Ao10 x3_1.length co10 : Value).ownBlock ∧ k_ ≠ gb128)) (by (with_reducible repeat (first | apply Kd.R_alloc | apply Kd.R_drewN | apply Kd.R_drew)); exact Kd.R_mono HO190.out (fun _ hk => ⟨⟨hk.2.1, hk.2.2⟩, hk.1⟩)) hg hat)
          have n4_ := As_ (hb)
          have n5_ := As_ (ho)
          clear HO_3; clear BK126; clear BK128; clear HO190; clear HB; clear HO187
          have HO_3 := n0_
          have BK126 := n1_
          have BK128 := n2_
          have HO190 := n3_
          have HB := n4_
          have HO193 := n5_
          clear n0_ n1_ n2_ n3_ n4_ n5_; clear ho hb hg hat
          refine hK.out _ _ ⟨(blk_cell BK128.out 0).trans rfl, (blk_cell BK128.out 1).trans rfl, (blk_cell BK128.out 2).trans rfl⟩ (fun hHeld => ?_); clear hK K
          refine norm_ (a' := ?_) ?_ ?_; rotate_left
          · show Act.put _ (some 64) _ = _
            simp only [Act.put, sib_, sc0_, sc1_, i64_w, i32_w]
            rfl
          refine pure_ (i := 8) (N := some 7) (v := ?_) (a' := ?_) #[t_,t_,t_,t_,t_,t_,t_,t_,t_] rfl rfl (any_of HT_.out (by kernel_rfl)) (fun _ _ _ h => h) (Or.inl ⟨by rfl, ?_⟩) ?_ ?_; rotate_left
          · intro w'; go_simp; with_reducible rfl
          rotate_left
          · simp only [Act.put, sib_, sc0_, sc1_, i64_w, i32_w]; rfl
          refine done_ (done_of HT_.out (by kernel_rfl)) ?_
          have q78 : (x6_2 : Int) ≤ ((x3_1.length : Int) : Int) := of_decide_eq_true (by first | (with_reducible assumption) | assumption)
          obtain ⟨i078, hi078, _, hsz78, _⟩ := info_parts info87
          have hroom78 : x3_1.length ≤ co10 := (Kd.R_reads' HO_3.out).2.1
          have hC78 : Kd.C k87 _ Ao10 x3_1.length x3_1 := (Kd.R_reads' HO_3.out).2.2
          have q078 : (0 : Int) ≤ (x6_2 : Int) := of_decide_eq_true (by first | (with_reducible assumption) | assumption)
          have hcut78 := cut_from (P := Try.prog) 29 87 .i64 Try.underlying29 hi078 3 hsz78 Ao10 x3_1.length co10 x6_2 q078 q78
          have hr78 := Kd.C_drop (m := (x6_2 : Int).toNat) (c := co10) hC78 (by omega) hroom78
          obtain ⟨A78, hA78⟩ : ∃ A1, A1 = (if co10 = (x6_2 : Int).toNat then Ao10 else (Ao10 : Option Addr).map (·.add ((x6_2 : Int).toNat * 3))) := ⟨_, rfl⟩
          obtain ⟨c78, hc78⟩ : ∃ c1, c1 = co10 - (x6_2 : Int).toNat := ⟨_, rfl⟩
          have hy78 : y194.length = x3_1.length - (x6_2 : Int).toNat := (by rw [Ny194.out, List.length_drop] <;> omega)
          rw [show (x3_1).drop (x6_2 : Int).toNat = y194 from Ny194.out.symm] at hr78
          replace hr78 : Kd.C k87 _ A78 y194.length y194 := (by rw [hA78]; exact hr78)
          rw [← hy78, ← hA78, ← hc78] at hcut78
          have HR197 := As_ hr78
          have HC197 := As_ (show y194.length ≤ c78 from by rw [hy78, hc78]; exact Nat.sub_le_sub_right hroom78 _)
          clear hr78 hC78 hroom78 hi078 hsz78 hc78
          have KY78 := As_ hy78
          have KA78 := As_ hA78
          clear hy78 hA78
          have KL78 := As_ (show (x6_2 : Int).toNat ≤ x3_1.length from by omega)
          replace q78 := eq_true q78
          try go_wp2_with (first | ((with_reducible refine gate_builtin (b := .append) (xs := #[.tmp 65, .tmp 68]) rfl ?_); at_builtin; refine Kd.R_append_rows k87 (w0 := w) w.heap.size rfl (.tmp 65) (.tmp 68) 29 87 (.agg #[(.int .i64 0), (.int .i64 0), (.int .i64 0)]) 24 rfl Try.underlying29 info87 rfl (by decide) (by omega) v192 y191 y194 _ _ _ (fun k_ => some k_ ≠ (.slice Ao10 x3_1.length co10 : Value).ownBlock ∧ some k_ ≠ (.slice Ao77 y188.length co77 : Value).ownBlock ∧ k_ ≠ gb128) (fun _ => False) rfl rfl ?aO ?aR (fun _ _ h => h) (fun _ h => h.elim) ?aF ?aB ?aS ?aL ?_; (case aR => repeat (first | exact (by repeat (first | (with_reducible exact HR197.out) | (with_reducible refine Kd.C_alloc ?_ _) | (with_reducible refine Kd.C_drewN ?_ _) | (with_reducible refine Kd.C_drew ?_) | exact HR197.out)) | (with_reducible refine Kd.C_alloc ?_ _) | (with_reducible refine Kd.C_drewN ?_ _) | (with_reducible refine Kd.C_drew ?_))); (case aB => exact (by repeat (first | (with_reducible first | exact HB.out | apply below_alloc | apply pw_below_drewN | apply below_drew1 | refine below_setA ?_ (by assumption)) | exact HB.out))); (case aF => exact (fun k_ hk => ⟨Kd.fresh' (Kd.R_lt (by (with_reducible repeat (first | apply Kd.R_alloc | apply Kd.R_drewN | apply Kd.R_drew)); exact HO_3.out)) k_ hk, Kd.fresh' (Kd.R_lt (by (with_reducible repeat (first | apply Kd.R_alloc | apply Kd.R_drewN | apply Kd.R_drew)); exact HO190.out)) k_ hk, Kd.freshB (g := gb128) (o := .cells #[.int .i64 ((rd_T87 l0_2 x14_1).f0), .int .i64 ((rd_T87 l0_2 x14_1).f1), .int .i64 ((rd_T87 l0_2 x14_1).f2)] 87 (0, 0)) BK128.out k_ hk⟩)); (case aO => exact (by (with_reducible repeat (first | apply Kd.R_alloc | apply Kd.R_drewN | apply Kd.R_drew)); exact HO193.out)); (case aS => exact (below_size (by repeat (first | (with_reducible first | exact HB.out | apply below_alloc | apply pw_below_drewN | apply below_drew1 | refine below_setA ?_ (by assumption)) | exact HB.out)))); (case aL => have := LMc66.out; omega); intro v199 w79 ho hb hg hat; rw [← Ny198.out] at ho; have n0_ := As_ (Kd.R_after (ok := (fun k_ => some k_ ≠ (.slice Ao77 y188.length co77 : Value).ownBlock ∧ k_ ≠ gb128)) (by (with_reducible repeat (first | apply Kd.R_alloc | apply Kd.R_drewN | apply Kd.R_drew)); exact HO_3.out) hg hat); have n1_ := As_ (blk_grown (g := gb126) (o := .cells #[.int .i64 a0_0, .int .i64 a0_1, .slice (some ad127) l0_2.length c0_2] 31 (0, 0)) BK126.out hg (Kd.R_ne HO193.out BK126.out (by decide))); have n2_ := As_ (blk_grown (g := gb128) (o := .cells #[.int .i64 ((rd_T87 l0_2 x14_1).f0), .int .i64 ((rd_T87 l0_2 x14_1).f1), .int .i64 ((rd_T87 l0_2 x14_1).f2)] 87 (0, 0)) BK128.out hg (Kd.R_away HO193.out (fun _ hk => hk.2.2))); have n3_ := As_ (Kd.R_after (ok := (fun k_ => some k_ ≠ (.slice Ao10 x3_1.length co10 : Value).ownBlock ∧ k_ ≠ gb128)) (by (with_reducible repeat (first | apply Kd.R_alloc | apply Kd.R_drewN | apply Kd.R_drew)); exact HO190.out) hg hat); have n4_ := As_ (hb); have n5_ := As_ ((show Kd.C k87 w79 A78 y194.length y194 from by rw [Ny194.out, KA78.out]; exact Kd.C_drop (m := (x6_2 : Int).toNat) (c := co10) ((Kd.R_reads' (Kd.R_after (ok := (fun k_ => some k_ ≠ (.slice Ao77 y188.length co77 : Value).ownBlock ∧ k_ ≠ gb128)) (by (with_reducible repeat (first | apply Kd.R_alloc | apply Kd.R_drewN | apply Kd.R_drew)); exact HO_3.out) hg hat)).2.2) KL78.out ((Kd.R_reads' (Kd.R_after (ok := (fun k_ => some k_ ≠ (.slice Ao77 y188.length co77 : Value).ownBlock ∧ k_ ≠ gb128)) (by (with_reducible repeat (first | apply Kd.R_alloc | apply Kd.R_drewN | apply Kd.R_drew)); exact HO_3.out) hg hat)).2.1))); have n6_ := As_ (ho); clear HO_3; clear BK126; clear BK128; clear HO190; clear HB; clear HR197; clear HO193; have HO_3 := n0_; have BK126 := n1_; have BK128 := n2_; have HO190 := n3_; have HB := n4_; have HR197 := n5_; have HO200 := n6_; clear n0_ n1_ n2_ n3_ n4_ n5_ n6_; clear ho hb hg hat))
          go_roundg k2
          case measure => have := HK1.out; have := HK2.out; omega
          case rel => exact ⟨(y198), (wrap64 (x14_1 + 1)), (by first | rfl | (simp; done) | (simp [*]; done)), H', ⟨by have := HK1.out; have := HK2.out; omega⟩, ⟨by (with_reducible repeat (first | apply Kd.R_alloc | apply Kd.R_drewN | apply Kd.R_drew)); exact Kd.R_mono HO200.out (fun _ hk => trivial)⟩, ⟨by (with_reducible repeat (first | refine blk_drewN ?_ _ | refine blk_drew ?_ | refine blk_alloc ?_ _)); exact BK126.out⟩, ⟨by repeat (first | (with_reducible first | exact HB.out | apply below_alloc | apply pw_below_drewN | apply below_drew1 | refine below_setA ?_ (by assumption)) | exact HB.out)⟩⟩
    · rw [if_neg c4] at H
      have c4b0 : decide (x14_1 < (l0_2.length : Int)) = false := decide_eq_false c4
      clear c4
      have H' := As_ H
      clear H
      obtain ⟨Ao80, co80, eo80⟩ := Kd.R_slice HO_3.out
      subst eo80
      go_wp2
      go_loopg [8, 73] k1 (fun kq v8 v73 w' => ∃ (x8_2 : List Int) (x73_2 : Int), v73 = .int .i64 x73_2 ∧ Aside0 (spec_stSides.l2 kq x8_2 x3_1 (x3_1.length : Int) x73_2 = some r) ∧ Aside0 (kq ≤ k1) ∧ Aside0 (Kd.R (Kd.int .i64) 3 w' w.heap.size (fun _ => True) v8 x8_2) ∧ Aside0 (Kd.R k87 87 w' w.heap.size (fun _ => True) (.slice Ao80 x3_1.length co80) x3_1) ∧ Aside0 (w'.heap[gb126]? = some (.cells #[.int .i64 a0_0, .int .i64 a0_1, (.slice A0_2 l0_2.length c0_2)] 31 (0, 0))) ∧ Aside0 (Below w.heap.size w w'))
      case atStart => exact ⟨(([] : List Int)), (0), (by first | rfl | (simp; done) | (simp [*]; done)), H', ⟨Nat.le_refl _⟩, ⟨by first | exact Kd.R_nil _ _ _ _ _ | exact Kd.N_nil _ _ _ _ _ | exact Kd.V_nil _ _ _ _ _ | exact Kd.Q_nil _ _ _ _ _ | exact Kd.S_nil _ _ _ _ _⟩, ⟨by (with_reducible repeat (first | apply Kd.R_alloc | apply Kd.R_drewN | apply Kd.R_drew)); exact HO_3.out⟩, ⟨by (with_reducible repeat (first | refine blk_drewN ?_ _ | refine blk_drew ?_ | refine blk_alloc ?_ _)); exact BK126.out⟩, ⟨by repeat (first | (with_reducible first | exact HB.out | apply below_alloc | apply pw_below_drewN | apply below_drew1 | refine below_set ?_ GE126.out) | exact HB.out)⟩⟩
      case round =>
        clear H'
        try clear c1; try clear p2; try clear c3; try clear c4; try clear c4b0; try clear c5; try clear c6; try clear p6
        try clear q6
        try clear c7
        try clear q7
        try clear c60; try clear c61; try clear c62; try clear c63; try clear p64; try clear c66
        try clear q69
        try clear c78
        try clear q78
        try clear q078
        try clear q69
        try clear q78
        obtain ⟨x8_2, x73_2, rfl, HA, HK2, HO_8, HO_71, BK126, HB⟩ := hrel
        rcases gk with _ | k2
        · exact absurd HA.out (by simp [spec_stSides.l2])
        have H := HA.out
        clear HA
        simp only [spec_stSides.l2] at H
        by_cases c81 : x73_2 < (x3_1.length : Int)
        · rw [if_pos c81] at H
          have c81b0 : decide (x73_2 < (x3_1.length : Int)) = true := decide_eq_true c81
          clear c81
          by_cases c82 : 0 ≤ x73_2
          case neg => rw [if_neg c82] at H; exact absurd H (by simp)
          rw [if_pos c82] at H
          have c82b0 : decide (0 ≤ x73_2) = true := decide_eq_true c82
          clear c82
          by_cases c83 : x73_2 < (x3_1.length : Int)
          case neg => rw [if_neg c83] at H; exact absurd H (by simp)
          rw [if_pos c83] at H
          have c83b0 : decide (x73_2 < (x3_1.length : Int)) = true := decide_eq_true c83
          clear c83
          obtain ⟨y203, hy203⟩ : ∃ y_ : List Int, y_ = (([(rd_T87 x3_1 x73_2).f2] : List Int)) := ⟨_, rfl⟩
          replace H : (if x8_2.length + y203.length < 17592186044416 then (spec_stSides.l2 k2 (x8_2 ++ y203) x3_1 (x3_1.length : Int) (wrap64 (x73_2 + 1))) else (none)) = some r := by first | (rw [hy203]; with_reducible exact H) | (have H2_ := (Option.bind_some _ _).symm.trans H; rw [hy203]; with_reducible exact H2_) | (have H2_ := (Option.bind_some _ _).symm.trans H; with_reducible exact H2_) | with_reducible exact H | (rw [hy203]; exact H) | exact H
          have Ny203 := As_ hy203
          clear hy203
          by_cases c84 : x8_2.length + y203.length < 17592186044416
          case neg => rw [if_neg c84] at H; exact absurd H (by simp)
          rw [if_pos c84] at H
          have LMc84 := As_ c84
          clear c84
          obtain ⟨y206, hy206⟩ : ∃ y_ : List Int, y_ = (x8_2 ++ y203) := ⟨_, rfl⟩
          replace H : (spec_stSides.l2 k2 y206 x3_1 (x3_1.length : Int) (wrap64 (x73_2 + 1))) = some r := by first | (rw [hy206]; with_reducible exact H) | (have H2_ := (Option.bind_some _ _).symm.trans H; rw [hy206]; with_reducible exact H2_) | (have H2_ := (Option.bind_some _ _).symm.trans H; with_reducible exact H2_) | with_reducible exact H | (rw [hy206]; exact H) | exact H
          have Ny206 := As_ hy206
          clear hy206
          have H' := As_ H
          clear H
          have p201 : 0 ≤ (x73_2 : Int) := of_decide_eq_true (by first | (with_reducible assumption) | assumption)
          have q201 : x73_2 < (x3_1.length : Int) := of_decide_eq_true (by first | (with_reducible assumption) | assumption)
          obtain ⟨ad201, e201, hx201_0, hx201_1, hx201_2⟩ := at_T87 (Kd.R_reads' HO_71.out).2.2 x73_2 p201 q201
          cases e201
          replace p201 := eq_true p201
          replace q201 := eq_true q201
          go_wp2_with (first | ((with_reducible refine gate_dst (N := 10) rfl ?_); refine box_event ?hg (N := 10) ?hd (cs := #[.int .i64 0, .int .i64 0, .int .i64 0]) (t := 87) ?hr ?_; (case hd => rfl); (case hg => rfl); (case hr => first | (go_simp; done) | (go_simp; rfl)); intro gb202 hg w85 hbox hb; have BK202 := As_ (hbox); have GW202 := As_ ((by rw [hg]; exact (below_size (by repeat (first | (with_reducible first | exact HB.out | apply below_alloc | apply pw_below_drewN | apply below_drew1 | refine below_set ?_ GE126.out) | exact HB.out))) : w.heap.size ≤ gb202)); have GE202 := As_ ((by rw [hg]; exact (below_size (by repeat (first | (with_reducible first | exact HB.out | apply below_alloc | apply pw_below_drewN | apply below_drew1 | refine below_set ?_ GE126.out) | exact HB.out))) : w.heap.size ≤ gb202)); have NB126_202 := As_ (ne_lt hg BK126.out); have NB202_126 := As_ (ne_gt hg BK126.out); replace HO_8 := As_ (Kd.R_below (by (with_reducible repeat (first | apply Kd.R_alloc | apply Kd.R_drewN | apply Kd.R_drew)); exact HO_8.out) hb); replace HO_71 := As_ (Kd.R_below (Kd.R_elderB (by (with_reducible repeat (first | apply Kd.R_alloc | apply Kd.R_drewN | apply Kd.R_drew)); exact HO_71.out) gb202 (Nat.le_of_eq hg.symm)) hb); replace BK126 := As_ (blk_b hb BK126.out); replace HB := As_ (below_step (by repeat (first | (with_reducible first | exact HB.out | apply below_alloc | apply pw_below_drewN | apply below_drew1 | refine below_set ?_ GE126.out) | exact HB.out)) hb); clear hb hbox hg; have hnb86 := NB202_126.out; have hnc86 := NB126_202.out; have hcz87_0 : w85.cell? ⟨gb202, 0, none⟩ = some (.int .i64 0) := (blk_cell BK202.out 0).trans rfl; have hcz87_1 : w85.cell? ⟨gb202, 1, none⟩ = some (.int .i64 0) := (blk_cell BK202.out 1).trans rfl; have hcz87_2 : w85.cell? ⟨gb202, 2, none⟩ = some (.int .i64 0) := (blk_cell BK202.out 2).trans rfl; have hfz87_0 := blk_frozen BK202.out 0; have hfz87_1 := blk_frozen BK202.out 1; have hfz87_2 := blk_frozen BK202.out 2) | ((with_reducible refine gate_dst (N := 80) rfl ?_); refine Kd.R_lit (Kd.int .i64) _ 3 ?hg (N := 80) ?hd (xs := ([(rd_T87 x3_1 x73_2).f2] : List Int)) (inner := [.int .i64 ((rd_T87 x3_1 x73_2).f2)]) (ok := fun _ => True) (okp := fun _ => True) ?hr ?hp (fun _ hk => hk) trivial (Below.refl _ _) (Nat.le_refl _) (by simp) ?_; (case hd => rfl); (case hg => rfl); (case hr => first | (go_simp; done) | (go_simp; rfl)); (case hp => exact (Reps.one (show Kd.M (Kd.int .i64) _ _ _ ((rd_T87 x3_1 x73_2).f2) [.int .i64 ((rd_T87 x3_1 x73_2).f2)] from rfl) (Reps.none _ _))); intro v204 w88 ho89 hb hg_ hnew_; clear hg_ hnew_; (first | rw [← Ny203.out] at ho89 | (simp only [Int.reduceToNat] at ho89; rw [← Ny203.out] at ho89)); have HO205 := As_ (Kd.R_lower (Kd.R_new' ho89 (Kd.R_lt (by (with_reducible repeat (first | apply Kd.R_alloc | apply Kd.R_drewN | apply Kd.R_drew)); exact (Kd.R_mono (Kd.R_far (p := ⟨gb202, 2, none⟩) (Kd.R_far (p := ⟨gb202, 1, none⟩) (Kd.R_far (p := ⟨gb202, 0, none⟩) (Kd.R_types HO_8.out BK202.out (by decide)) (fun _ hk => hk.2) (.int .i64 ((rd_T87 x3_1 x73_2).f0))) (fun _ hk => hk.2) (.int .i64 ((rd_T87 x3_1 x73_2).f1))) (fun _ hk => hk.2) (.int .i64 ((rd_T87 x3_1 x73_2).f2))) (fun _ h_ => h_.1))))) (below_size (by repeat (first | (with_reducible first | exact HB.out | apply below_alloc | apply pw_below_drewN | apply below_drew1 | refine below_setA ?_ (by assumption)) | exact HB.out)))); replace HO_8 := As_ (Kd.R_elder' (by (with_reducible repeat (first | apply Kd.R_alloc | apply Kd.R_drewN | apply Kd.R_drew)); exact (Kd.R_mono (Kd.R_far (p := ⟨gb202, 2, none⟩) (Kd.R_far (p := ⟨gb202, 1, none⟩) (Kd.R_far (p := ⟨gb202, 0, none⟩) (Kd.R_types HO_8.out BK202.out (by decide)) (fun _ hk => hk.2) (.int .i64 ((rd_T87 x3_1 x73_2).f0))) (fun _ hk => hk.2) (.int .i64 ((rd_T87 x3_1 x73_2).f1))) (fun _ hk => hk.2) (.int .i64 ((rd_T87 x3_1 x73_2).f2))) (fun _ h_ => h_.1))) (Kd.R_base ho89) hb); replace HO_71 := As_ (Kd.R_below (by (with_reducible repeat (first | apply Kd.R_alloc | apply Kd.R_drewN | apply Kd.R_drew)); exact (Kd.R_mono (Kd.R_far (p := ⟨gb202, 2, none⟩) (Kd.R_far (p := ⟨gb202, 1, none⟩) (Kd.R_far (p := ⟨gb202, 0, none⟩) (Kd.R_mono HO_71.out (fun k_ hk => (⟨hk, hk.2⟩ : _ ∧ k_ ≠ gb202))) (fun _ hk => hk.2) (.int .i64 ((rd_T87 x3_1 x73_2).f0))) (fun _ hk => hk.2) (.int .i64 ((rd_T87 x3_1 x73_2).f1))) (fun _ hk => hk.2) (.int .i64 ((rd_T87 x3_1 x73_2).f2))) (fun _ h_ => h_.1))) hb); replace BK126 := As_ (blk_below (g := gb126) (o := .cells #[.int .i64 a0_0, .int .i64 a0_1, .slice A0_2 l0_2.length c0_2] 31 (0, 0)) (by (with_reducible repeat (first | refine blk_drewN ?_ _ | refine blk_drew ?_ | refine blk_alloc ?_ _)); refine blk_far ?_ NB126_202.out _; refine blk_far ?_ NB126_202.out _; refine blk_far ?_ NB126_202.out _; (with_reducible repeat (first | refine blk_drewN ?_ _ | refine blk_drew ?_ | refine blk_alloc ?_ _)); exact BK126.out) hb); replace BK202 := As_ (blk_below (g := gb202) (o := .cells #[.int .i64 ((rd_T87 x3_1 x73_2).f0), .int .i64 ((rd_T87 x3_1 x73_2).f1), .int .i64 ((rd_T87 x3_1 x73_2).f2)] 87 (0, 0)) (by (with_reducible repeat (first | refine blk_drewN ?_ _ | refine blk_drew ?_ | refine blk_alloc ?_ _)); refine blk_put (cs := #[.int .i64 ((rd_T87 x3_1 x73_2).f0), .int .i64 ((rd_T87 x3_1 x73_2).f1), .int .i64 0]) ?_ 2 _ rfl; refine blk_put (cs := #[.int .i64 ((rd_T87 x3_1 x73_2).f0), .int .i64 0, .int .i64 0]) ?_ 1 _ rfl; refine blk_put (cs := #[.int .i64 0, .int .i64 0, .int .i64 0]) ?_ 0 _ rfl; (with_reducible repeat (first | refine blk_drewN ?_ _ | refine blk_drew ?_ | refine blk_alloc ?_ _)); exact BK202.out) hb); replace HB := As_ (below_step (by repeat (first | (with_reducible first | exact HB.out | apply below_alloc | apply pw_below_drewN | apply below_drew1 | refine below_setA ?_ (by assumption)) | exact HB.out)) hb); clear hb ho89; obtain ⟨Ao91, co91, eo91⟩ := Kd.R_slice HO205.out; subst eo91) | ((with_reducible refine gate_builtin (b := .append) (xs := #[.tmp 77, .tmp 80]) rfl ?_); at_builtin; refine Kd.R_append_rows (Kd.int .i64) (w0 := w) w.heap.size rfl (.tmp 77) (.tmp 80) 26 3 (.int .i64 0) 8 rfl Try.underlying26 info3 rfl (by decide) (by omega) u8 x8_2 y203 _ _ _ (fun k_ => some k_ ≠ (.slice Ao91 y203.length co91 : Value).ownBlock) (fun _ => False) rfl rfl ?aO ?aR (fun _ _ h => h) (fun _ h => h.elim) ?aF ?aB ?aS ?aL ?_; (case aR => repeat (first | exact (Kd.R_reads' HO205.out).2.2 | (with_reducible refine Kd.C_alloc ?_ _) | (with_reducible refine Kd.C_drewN ?_ _) | (with_reducible refine Kd.C_drew ?_))); (case aB => exact (by repeat (first | (with_reducible first | exact HB.out | apply below_alloc | apply pw_below_drewN | apply below_drew1 | refine below_setA ?_ (by assumption)) | exact HB.out))); (case aF => exact (fun k_ hk => Kd.fresh' (Kd.R_lt (by (with_reducible repeat (first | apply Kd.R_alloc | apply Kd.R_drewN | apply Kd.R_drew)); exact HO205.out)) k_ hk)); (case aO => exact (by (with_reducible repeat (first | apply Kd.R_alloc | apply Kd.R_drewN | apply Kd.R_drew)); exact Kd.R_mono HO_8.out (fun _ hk => hk.2))); (case aS => exact (below_size (by repeat (first | (with_reducible first | exact HB.out | apply below_alloc | apply pw_below_drewN | apply below_drew1 | refine below_setA ?_ (by assumption)) | exact HB.out)))); (case aL => have := LMc84.out; omega); intro v207 w90 ho hb hg hat; rw [← Ny206.out] at ho; have n0_ := As_ (Kd.R_over' (by (with_reducible repeat (first | apply Kd.R_alloc | apply Kd.R_drewN | apply Kd.R_drew)); exact HO_71.out) (Kd.R_typed (by (with_reducible repeat (first | apply Kd.R_alloc | apply Kd.R_drewN | apply Kd.R_drew)); exact HO_8.out)) (by decide) hg); have n1_ := As_ (blk_grown (g := gb126) (o := .cells #[.int .i64 a0_0, .int .i64 a0_1, .slice A0_2 l0_2.length c0_2] 31 (0, 0)) BK126.out hg (Kd.R_ne HO_8.out BK126.out (by decide))); have n2_ := As_ (blk_grown (g := gb202) (o := .cells #[.int .i64 ((rd_T87 x3_1 x73_2).f0), .int .i64 ((rd_T87 x3_1 x73_2).f1), .int .i64 ((rd_T87 x3_1 x73_2).f2)] 87 (0, 0)) BK202.out hg (Kd.R_ne HO_8.out BK202.out (by decide))); have n3_ := As_ (Kd.R_after (ok := (fun _ => True)) (by (with_reducible repeat (first | apply Kd.R_alloc | apply Kd.R_drewN | apply Kd.R_drew)); exact HO205.out) hg hat); have n4_ := As_ (hb); have n5_ := As_ (ho); clear HO_71; clear BK126; clear BK202; clear HO205; clear HB; clear HO_8; have HO_71 := n0_; have BK126 := n1_; have BK202 := n2_; have HO205 := n3_; have HB := n4_; have HO208 := n5_; clear n0_ n1_ n2_ n3_ n4_ n5_; clear ho hb hg hat))
          go_roundg k2
          case measure => have := HK1.out; have := HK2.out; omega
          case rel => exact ⟨(y206), (wrap64 (x73_2 + 1)), (by first | rfl | (simp; done) | (simp [*]; done)), H', ⟨by have := HK1.out; have := HK2.out; omega⟩, ⟨by (with_reducible repeat (first | apply Kd.R_alloc | apply Kd.R_drewN | apply Kd.R_drew)); exact Kd.R_mono HO208.out (fun _ hk => trivial)⟩, ⟨by (with_reducible repeat (first | apply Kd.R_alloc | apply Kd.R_drewN | apply Kd.R_drew)); exact Kd.R_mono HO_71.out (fun _ hk => trivial)⟩, ⟨by (with_reducible repeat (first | refine blk_drewN ?_ _ | refine blk_drew ?_ | refine blk_alloc ?_ _)); exact BK126.out⟩, ⟨by repeat (first | (with_reducible first | exact HB.out | apply below_alloc | apply pw_below_drewN | apply below_drew1 | refine below_setA ?_ (by assumption)) | exact HB.out)⟩⟩
        · rw [if_neg c81] at H
          have c81b0 : decide (x73_2 < (x3_1.length : Int)) = false := decide_eq_false c81
          clear c81
          obtain rfl := Option.some.inj H
          go_wp2
          go_ret
          exact ⟨_, by first | rfl | (simp [errW_none, errW_some] <;> rfl) | (simp [*, errW_none, errW_some] <;> rfl), by (with_reducible repeat (first | apply Kd.R_alloc | apply Kd.R_drewN | apply Kd.R_drew)); exact HO_8.out, by repeat (first | (with_reducible first | exact HB.out | apply below_alloc | apply pw_below_drewN | apply below_drew1 | refine below_set ?_ GE126.out) | exact HB.out)⟩

end Go.Proofs.Ytipiaiolhhnnhaa.PFnExactFillSides
