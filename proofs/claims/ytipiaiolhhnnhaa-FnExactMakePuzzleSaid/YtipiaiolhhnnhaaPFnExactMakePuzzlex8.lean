-- Written by a program of this session (wip/tools/pg.py) out of the translation.
import Derived.Test.YtipiaiolhhnnhaaPFnExactMakePuzzlex0
import Derived.Test.YtipiaiolhhnnhaaPFnExactMakePuzzlex7
namespace Go.Proofs.Ytipiaiolhhnnhaa.PFnExactMakePuzzle
open Go.RowKit Go.Proofs.YtipiaiolhhnnhaaW.PrintWords Go.Proofs.YtipiaiolhhnnhaaW.PrintLast Go.Proofs.YtipiaiolhhnnhaaW.PrintMore Go.Proofs.YtipiaiolhhnnhaaH
attribute [local go_sem] max2_int min2_int max_two min_two max_three min_three max_four min_four   -- for this text's walks alone
set_option linter.unusedVariables false
set_option linter.unusedSimpArgs false

/-! ### spec_cuTurn: function 94 -/
def spec_cuTurn.l0 : Nat → List (S87) → List (S87) → Int → Int → Int → Int → List (S87) → Option (Int × Int × (List (S87)))
 | 0, _, _, _, _, _, _, _ => none
 | k + 1, x3, x7, x8, x9, x222000, x222001, x222002 => if x9 < x8 then (if 0 ≤ x9 then (if x9 < (x7.length : Int) then (if x3.length < 5864062014805 then (spec_cuTurn.l0 k (x3 ++ [(⟨wrap64 ((wrap64 (x222001 - ((rd_T87 x7 x9).f1))) - ((rd_T87 x7 x9).f2)), (rd_T87 x7 x9).f0, (rd_T87 x7 x9).f2⟩ : S87)]) x7 x8 (wrap64 (x9 + 1)) x222000 x222001 x222002) else (none)) else (none)) else (none)) else ((spec_cuSorted.f k x3).bind fun t228 => (some (x222001, x222000, t228)))
def spec_cuTurn.f (k : Nat) (a0_0 : Int) (a0_1 : Int) (l0_2 : List (S87)) : Option (Int × Int × (List (S87))) := spec_cuTurn.l0 k ([] : List (S87)) l0_2 (l0_2.length : Int) 0 a0_0 a0_1 l0_2
theorem spec_cuTurn.mono_l : ∀ k, (∀ y0 y1 y2 y3 y4 y5 y6, LeO (spec_cuTurn.l0 k y0 y1 y2 y3 y4 y5 y6) (spec_cuTurn.l0 (k + 1) y0 y1 y2 y3 y4 y5 y6))
 | 0 => fun _ _ _ _ _ _ _ r h => by simp [spec_cuTurn.l0] at h
 | k + 1 => by
  have ih0 := spec_cuTurn.mono_l k
  ·
   intro y0 y1 y2 y3 y4 y5 y6
   unfold spec_cuTurn.l0
   repeat' first
   | (with_reducible exact ih0 _ _ _ _ _ _ _)
   | (with_reducible exact spec_cuSorted.mono _ _)
   | (with_reducible exact LeO.refl _)
   | (with_reducible exact LeO.none _)
   | (with_reducible refine LeO.ite ?_ ?_)
   | (with_reducible refine LeO.bind ?_ (fun _ => ?_))
   | exact ih0 _ _ _ _ _ _ _
   | exact spec_cuSorted.mono _ _
   | exact LeO.none _
   | refine LeO.ite ?_ ?_
   | refine LeO.bind ?_ (fun _ => ?_)
theorem spec_cuTurn.mono : ∀ a0 a1 a2 k, LeO (spec_cuTurn.f k a0 a1 a2) (spec_cuTurn.f (k + 1) a0 a1 a2) := by
 intro a0 a1 a2 k
 have ih0 := spec_cuTurn.mono_l k
 unfold spec_cuTurn.f
 repeat' first
   | (with_reducible exact ih0 _ _ _ _ _ _ _)
   | (with_reducible exact spec_cuSorted.mono _ _)
   | (with_reducible exact LeO.refl _)
   | (with_reducible exact LeO.none _)
   | (with_reducible refine LeO.ite ?_ ?_)
   | (with_reducible refine LeO.bind ?_ (fun _ => ?_))
   | exact ih0 _ _ _ _ _ _ _
   | exact spec_cuSorted.mono _ _
   | exact LeO.none _
   | refine LeO.ite ?_ ?_
   | refine LeO.bind ?_ (fun _ => ?_)
def spec_cuTurn.T7 : Bool × List (List Nat × List Nat) := (true, [([], []), ([0], [0]), ([], []), ([2], [2]), ([], []), ([4], [4]), ([1, 3, 5], [1, 3, 5]), ([6, 5, 0, 1, 2, 3, 4, 5, 6], [6])])
def spec_cuTurn.B7 : List Nat := [0, 1, 0, 4, 0, 16, 63, 127]
theorem spec_cuTurn.tab7 : rtab .any (opsOf Try.f94 7) = spec_cuTurn.T7 := by kernel_rfl
theorem spec_cuTurn.bits7 : waitsOk spec_cuTurn.T7.2 spec_cuTurn.B7 = true := by kernel_rfl
set_option maxHeartbeats 8000000 in
set_option maxRecDepth 100000 in
theorem spec_cuTurn.calls (k : Nat) (a0_0 : Int) (a0_1 : Int) (A0_2 : Option Addr) (c0_2 : Nat) (l0_2 : List (S87)) (r1 : Int) (r2 : Int) (r3 : List (S87)) (w : World) (hr0_2 : Kd.C k87 w A0_2 l0_2.length l0_2) (hc0_2 : l0_2.length ≤ c0_2) (h : spec_cuTurn.f k a0_0 a0_1 l0_2 = some (r1, r2, r3)) :
  Calls Try.prog 94 #[.agg #[.int .i64 a0_0, .int .i64 a0_1, .slice A0_2 l0_2.length c0_2]] w fun e w' => ∃ v2_ : Value, e = .returned (.agg #[.int .i64 r1, .int .i64 r2, v2_]) ∧ Kd.R k87 87 w' w.heap.size (fun _ => True) v2_ r3 ∧ Below w.heap.size w w' := by
 have hu31 := Try.underlying31
 have hu87 := Try.underlying87
 have HR0_2 := As_ hr0_2
 have HC0_2 := As_ hc0_2
 clear hr0_2 hc0_2
 have HB := As_ (Below.refl w.heap.size w)
 have H : (spec_cuTurn.l0 k ([] : List (S87)) l0_2 (l0_2.length : Int) 0 a0_0 a0_1 l0_2) = some (r1, r2, r3) := h
 clear h
 have H' := As_ H
 clear H
 go_enter Try.func94, Try.ntmps94
 go_wp2_with (first | ((with_reducible refine gate_dst (N := 1) rfl ?_); refine box_event rfl (N := 1) rfl (cs := #[.int .i64 a0_0, .int .i64 a0_1, .slice A0_2 l0_2.length c0_2]) (t := 31) ?hr ?_; (case hr => first | (go_simp; done) | (go_simp; rfl)); intro gb221 hg w2 hbox hb; have BK221 := As_ (hbox); have hW_ := bel_ w hb (by repeat (first | (with_reducible first | exact HB.out | apply ba_ | apply bn_ | apply bd_) | exact HB.out)); have GE221 := As_ (gesz hg hW_); replace HB := As_ (below_step hW_ hb); clear hW_ hb hbox hg) | ((with_reducible refine gate_dst (N := 2) rfl ?_); refine box_event rfl (N := 2) rfl (cs := #[.int .i64 0, .int .i64 0, .slice none 0 0]) (t := 31) ?hr ?_; (case hr => first | (go_simp; done) | (go_simp; rfl)); intro gb222 hg w3 hbox hb; have BK222 := As_ (hbox); have hW_ := bel_ w hb (by repeat (first | (with_reducible first | exact HB.out | apply ba_ | apply bn_ | apply bd_ | refine bs_ ?_ GE221.out) | exact HB.out)); have GE222 := As_ (gesz hg hW_); have NB221_222 := As_ (ne_lt hg BK221.out); have NB222_221 := As_ (ne_gt hg BK221.out); replace BK221 := As_ (blk_b hb BK221.out); replace HB := As_ (below_step hW_ hb); clear hW_ hb hbox hg; have hnb4 := NB221_222.out; have hnc4 := NB222_221.out; obtain ⟨hcz5_0, hcz5_1, hcz5_2⟩ := c3_ (w := w3) BK221.out; obtain ⟨hfz5_0, hfz5_1, hfz5_2⟩ := z3_ BK221.out))
 go_loopg [3, 9] k (fun kq v3 v9 w' => ∃ (x3_1 : List (S87)) (x9_1 : Int), v9 = .int .i64 x9_1 ∧ Aside0 (spec_cuTurn.l0 kq x3_1 l0_2 (l0_2.length : Int) x9_1 a0_0 a0_1 l0_2 = some (r1, r2, r3)) ∧ Aside0 (kq ≤ k) ∧ Aside0 (Kd.R k87 87 w' w.heap.size (fun _ => True) v3 x3_1) ∧ Aside0 (w'.heap[gb221]? = some (.cells #[.int .i64 a0_0, .int .i64 a0_1, (.slice A0_2 l0_2.length c0_2)] 31 (0, 0))) ∧ Aside0 (w'.heap[gb222]? = some (.cells #[.int .i64 0, .int .i64 0, (.slice none 0 0)] 31 (0, 0))) ∧ Aside0 (Below w.heap.size w w'))
 case atStart => exact ⟨(([] : List (S87))), (0), (by first | rfl | (simp; done) | (simp [*]; done)), H', ⟨Nat.le_refl _⟩, ⟨by first | exact Kd.R_nil _ _ _ _ _ | exact Kd.N_nil _ _ _ _ _ | exact Kd.V_nil _ _ _ _ _ | exact Kd.Q_nil _ _ _ _ _ | exact Kd.S_nil _ _ _ _ _⟩, ⟨by (with_reducible repeat (first | refine kn_ ?_ _ | refine kd_ ?_ | refine ka_ ?_ _)); exact BK221.out⟩, ⟨by (with_reducible repeat (first | refine kn_ ?_ _ | refine kd_ ?_ | refine ka_ ?_ _)); exact BK222.out⟩, ⟨by repeat (first | (with_reducible first | exact HB.out | apply ba_ | apply bn_ | apply bd_ | refine below_setA ?_ (by assumption)) | exact HB.out)⟩⟩
 case round =>
  clear H'
  try clear p2; try clear c4; try clear hcz5_0 hcz5_1 hcz5_2; try clear hfz5_0 hfz5_1 hfz5_2
  obtain ⟨x3_1, x9_1, rfl, HA, HK1, HO_3, BK221, BK222, HB⟩ := hrel
  rcases gk with _ | k1
  · exact absurd HA.out (by simp [spec_cuTurn.l0])
  have H := HA.out
  clear HA
  simp only [spec_cuTurn.l0] at H
  by_cases c6 : x9_1 < (l0_2.length : Int)
  ·
   rw [if_pos c6] at H
   have c6b0 : decide (x9_1 < (l0_2.length : Int)) = true := decide_eq_true c6
   clear c6
   by_cases c7 : 0 ≤ x9_1
   case neg => rw [if_neg c7] at H; exact absurd H (by simp)
   rw [if_pos c7] at H
   have c7b0 : decide (0 ≤ x9_1) = true := decide_eq_true c7
   clear c7
   by_cases c8 : x9_1 < (l0_2.length : Int)
   case neg => rw [if_neg c8] at H; exact absurd H (by simp)
   rw [if_pos c8] at H
   have c8b0 : decide (x9_1 < (l0_2.length : Int)) = true := decide_eq_true c8
   clear c8
   by_cases c9 : x3_1.length < 5864062014805
   case neg => rw [if_neg c9] at H; exact absurd H (by simp)
   rw [if_pos c9] at H
   have LMc9 := As_ c9
   clear c9
   obtain ⟨y225, hy225⟩ : ∃ y_ : List (S87), y_ = (x3_1 ++ [(⟨wrap64 ((wrap64 (a0_1 - ((rd_T87 l0_2 x9_1).f1))) - ((rd_T87 l0_2 x9_1).f2)), (rd_T87 l0_2 x9_1).f0, (rd_T87 l0_2 x9_1).f2⟩ : S87)]) := ⟨_, rfl⟩
   replace H : (spec_cuTurn.l0 k1 y225 l0_2 (l0_2.length : Int) (wrap64 (x9_1 + 1)) a0_0 a0_1 l0_2) = some (r1, r2, r3) := by first | (rw [hy225]; with_reducible exact H) | (have H2_ := (Option.bind_some _ _).symm.trans H; rw [hy225]; with_reducible exact H2_) | (have H2_ := (Option.bind_some _ _).symm.trans H; with_reducible exact H2_) | with_reducible exact H | (rw [hy225]; exact H) | exact H
   have Ny225 := As_ hy225
   clear hy225
   have H' := As_ H
   clear H
   have p223 : 0 ≤ (x9_1 : Int) := of_decide_eq_true (by first | (with_reducible assumption) | assumption)
   have q223 : x9_1 < (l0_2.length : Int) := of_decide_eq_true (by first | (with_reducible assumption) | assumption)
   obtain ⟨ad223, e223, hx223_0, hx223_1, hx223_2⟩ := at_T87 HR0_2.out x9_1 p223 q223
   cases e223
   replace hx223_0 := pw_cell_below HB.out hx223_0
   replace hx223_1 := pw_cell_below HB.out hx223_1
   replace hx223_2 := pw_cell_below HB.out hx223_2
   replace p223 := eq_true p223
   replace q223 := eq_true q223
   go_wp2_with (first | ((with_reducible refine gate_dst (N := 5) rfl ?_); refine box_event rfl (N := 5) rfl (cs := #[.int .i64 0, .int .i64 0, .int .i64 0]) (t := 87) ?hr ?_; (case hr => first | (go_simp; done) | (go_simp; rfl)); intro gb224 hg w10 hbox hb; have BK224 := As_ (hbox); have hW_ := bel_ w hb (by repeat (first | (with_reducible first | exact HB.out | apply ba_ | apply bn_ | apply bd_ | refine below_setA ?_ (by assumption)) | exact HB.out)); have GE224 := As_ (gesz hg hW_); have NB221_224 := As_ (ne_lt hg BK221.out); have NB224_221 := As_ (ne_gt hg BK221.out); have NB222_224 := As_ (ne_lt hg BK222.out); have NB224_222 := As_ (ne_gt hg BK222.out); replace HO_3 := As_ (Kd.R_below (Kd.R_elderB (by (with_reducible repeat (first | apply Kd.R_alloc | apply Kd.R_drewN | apply Kd.R_drew)); exact HO_3.out) gb224 (Nat.le_of_eq hg.symm)) hb); replace BK221 := As_ (blk_b hb BK221.out); replace BK222 := As_ (blk_b hb BK222.out); replace HB := As_ (below_step hW_ hb); clear hW_ hb hbox hg; have hnb11 := NB224_221.out; have hnc11 := NB221_224.out; have hnb12 := NB224_222.out; have hnc12 := NB222_224.out; obtain ⟨hcz13_0, hcz13_1, hcz13_2⟩ := c3_ (w := w10) BK224.out; obtain ⟨hfz13_0, hfz13_1, hfz13_2⟩ := z3_ BK224.out; have hnb14 := NB221_222.out; have hnc14 := NB222_221.out; obtain ⟨hcz15_0, hcz15_1, hcz15_2⟩ := c3_ (w := w10) BK221.out; obtain ⟨hfz15_0, hfz15_1, hfz15_2⟩ := z3_ BK221.out) | ((with_reducible refine gate_builtin (b := .append) (xs := #[.tmp 13, .tmp 27]) rfl ?_); at_builtin; refine Kd.R_append k87 (w0 := w) w.heap.size rfl (.tmp 13) (.tmp 27) 29 87 (.agg #[(.int .i64 0), (.int .i64 0), (.int .i64 0)]) 24 rfl Try.underlying29 info87 rfl (by decide) (by omega) u3 x3_1 (⟨wrap64 ((wrap64 (a0_1 - ((rd_T87 l0_2 x9_1).f1))) - ((rd_T87 l0_2 x9_1).f2)), (rd_T87 l0_2 x9_1).f0, (rd_T87 l0_2 x9_1).f2⟩ : S87) [.int .i64 (wrap64 ((wrap64 (a0_1 - ((rd_T87 l0_2 x9_1).f1))) - ((rd_T87 l0_2 x9_1).f2))), .int .i64 ((rd_T87 l0_2 x9_1).f0), .int .i64 ((rd_T87 l0_2 x9_1).f2)] (fun k_ => k_ ≠ gb224) (fun _ => False) rfl (by first | (go_simp; done) | (go_simp; rfl)) ?aP (fun _ hk => hk.elim) ?aF ?aO ?aB ?aS ?aL ?_; (case aP => exact k87_mkM _ _ _ (⟨wrap64 ((wrap64 (a0_1 - ((rd_T87 l0_2 x9_1).f1))) - ((rd_T87 l0_2 x9_1).f2)), (rd_T87 l0_2 x9_1).f0, (rd_T87 l0_2 x9_1).f2⟩ : S87)); (case aB => exact (by repeat (first | (with_reducible first | exact HB.out | apply ba_ | apply bn_ | apply bd_ | refine below_setA ?_ (by assumption)) | exact HB.out))); (case aF => exact (fun k_ hk => Kd.freshB (g := gb224) (o := .cells #[.int .i64 ((rd_T87 l0_2 x9_1).f0), .int .i64 ((rd_T87 l0_2 x9_1).f1), .int .i64 ((rd_T87 l0_2 x9_1).f2)] 87 (0, 0)) (by (with_reducible repeat (first | refine kn_ ?_ _ | refine kd_ ?_ | refine ka_ ?_ _)); refine blk_put (cs := #[.int .i64 ((rd_T87 l0_2 x9_1).f0), .int .i64 ((rd_T87 l0_2 x9_1).f1), .int .i64 0]) ?_ 2 _ rfl; refine blk_put (cs := #[.int .i64 ((rd_T87 l0_2 x9_1).f0), .int .i64 0, .int .i64 0]) ?_ 1 _ rfl; refine blk_put (cs := #[.int .i64 0, .int .i64 0, .int .i64 0]) ?_ 0 _ rfl; (with_reducible repeat (first | refine kn_ ?_ _ | refine kd_ ?_ | refine ka_ ?_ _)); exact BK224.out) k_ hk)); (case aO => exact (by (with_reducible repeat (first | apply Kd.R_alloc | apply Kd.R_drewN | apply Kd.R_drew)); exact Kd.R_mono (Kd.R_far (p := ⟨gb224, 2, none⟩) (Kd.R_far (p := ⟨gb224, 1, none⟩) (Kd.R_far (p := ⟨gb224, 0, none⟩) (Kd.R_mono HO_3.out (fun k_ hk => (⟨hk, hk.2⟩ : _ ∧ k_ ≠ gb224))) (fun _ hk => hk.2) (.int .i64 ((rd_T87 l0_2 x9_1).f0))) (fun _ hk => hk.2) (.int .i64 ((rd_T87 l0_2 x9_1).f1))) (fun _ hk => hk.2) (.int .i64 ((rd_T87 l0_2 x9_1).f2))) (fun _ hk => hk.1.2))); (case aS => exact (below_size (by repeat (first | (with_reducible first | exact HB.out | apply ba_ | apply bn_ | apply bd_ | refine below_setA ?_ (by assumption)) | exact HB.out)))); (case aL => have := LMc9.out; omega); intro v226 w16 ho hb hg hat; rw [← Ny225.out] at ho; have n0_ := As_ (blk_grown (g := gb221) (o := .cells #[.int .i64 a0_0, .int .i64 a0_1, .slice (some ad223) l0_2.length c0_2] 31 (0, 0)) (by (with_reducible repeat (first | refine kn_ ?_ _ | refine kd_ ?_ | refine ka_ ?_ _)); refine blk_far ?_ NB221_224.out _; refine blk_far ?_ NB221_224.out _; refine blk_far ?_ NB221_224.out _; (with_reducible repeat (first | refine kn_ ?_ _ | refine kd_ ?_ | refine ka_ ?_ _)); exact BK221.out) hg (Kd.R_ne HO_3.out BK221.out (by decide))); have n1_ := As_ (blk_grown (g := gb222) (o := .cells #[.int .i64 0, .int .i64 0, .slice none 0 0] 31 (0, 0)) (by (with_reducible repeat (first | refine kn_ ?_ _ | refine kd_ ?_ | refine ka_ ?_ _)); refine blk_far ?_ NB222_224.out _; refine blk_far ?_ NB222_224.out _; refine blk_far ?_ NB222_224.out _; (with_reducible repeat (first | refine kn_ ?_ _ | refine kd_ ?_ | refine ka_ ?_ _)); exact BK222.out) hg (Kd.R_ne HO_3.out BK222.out (by decide))); have n2_ := As_ (blk_grown (g := gb224) (o := .cells #[.int .i64 ((rd_T87 l0_2 x9_1).f0), .int .i64 ((rd_T87 l0_2 x9_1).f1), .int .i64 ((rd_T87 l0_2 x9_1).f2)] 87 (0, 0)) (by (with_reducible repeat (first | refine kn_ ?_ _ | refine kd_ ?_ | refine ka_ ?_ _)); refine blk_put (cs := #[.int .i64 ((rd_T87 l0_2 x9_1).f0), .int .i64 ((rd_T87 l0_2 x9_1).f1), .int .i64 0]) ?_ 2 _ rfl; refine blk_put (cs := #[.int .i64 ((rd_T87 l0_2 x9_1).f0), .int .i64 0, .int .i64 0]) ?_ 1 _ rfl; refine blk_put (cs := #[.int .i64 0, .int .i64 0, .int .i64 0]) ?_ 0 _ rfl; (with_reducible repeat (first | refine kn_ ?_ _ | refine kd_ ?_ | refine ka_ ?_ _)); exact BK224.out) hg (Kd.R_away HO_3.out (fun _ hk => hk.2))); have n3_ := As_ (hb); have n4_ := As_ (ho); clear BK221; clear BK222; clear BK224; clear HB; clear HO_3; have BK221 := n0_; have BK222 := n1_; have BK224 := n2_; have HB := n3_; have HO227 := n4_; clear n0_ n1_ n2_ n3_ n4_; clear ho hb hg hat))
   go_roundg k1
   case measure => have := HK1.out; omega
   case rel => exact ⟨(y225), (wrap64 (x9_1 + 1)), (by first | rfl | (simp; done) | (simp [*]; done)), H', ⟨by have := HK1.out; omega⟩, ⟨by (with_reducible repeat (first | apply Kd.R_alloc | apply Kd.R_drewN | apply Kd.R_drew)); exact Kd.R_mono HO227.out (fun _ hk => trivial)⟩, ⟨by (with_reducible repeat (first | refine kn_ ?_ _ | refine kd_ ?_ | refine ka_ ?_ _)); exact BK221.out⟩, ⟨by (with_reducible repeat (first | refine kn_ ?_ _ | refine kd_ ?_ | refine ka_ ?_ _)); exact BK222.out⟩, ⟨by repeat (first | (with_reducible first | exact HB.out | apply ba_ | apply bn_ | apply bd_ | refine below_setA ?_ (by assumption)) | exact HB.out)⟩⟩
  ·
   rw [if_neg c6] at H
   have c6b0 : decide (x9_1 < (l0_2.length : Int)) = false := decide_eq_false c6
   clear c6
   replace H := Option.bind_eq_some_iff.mp H
   obtain ⟨t228, A170, H⟩ := H
   replace H : (some (a0_1, a0_0, t228)) = some (r1, r2, r3) := H
   have A17 := As_ A170
   clear A170
   simp only [Option.some.injEq, Prod.mk.injEq] at H
   obtain ⟨rfl, rfl, rfl⟩ := H
   try go_wp2
   replace HO_3 := As_ (Kd.R_drew HO_3.out)
   replace BK221 := As_ (blk_drew BK221.out)
   replace BK222 := As_ (blk_drew BK222.out)
   replace HB := As_ (below_drew1 HB.out)
   obtain ⟨Ao19, co19, eo19⟩ := Kd.R_slice HO_3.out
   (first | subst eo19 | (injection eo19 with f1_ f2_ f3_; have f4_ := f1_.symm; have f5_ := f3_.symm; clear f1_ f2_ f3_; subst f4_; subst f5_))
   refine start_ (n := 8) (S := fun w' => w'.cell? ⟨gb221, 0, none⟩ = some (.int .i64 a0_0) ∧ w'.cell? ⟨gb221, 1, none⟩ = some (.int .i64 a0_1) ∧ w'.cell? ⟨gb221, 2, none⟩ = some (.slice A0_2 l0_2.length c0_2)) (ds := []) #[false, false, false, false, false, false, false, false] (by kernel_rfl) rfl rfl ⟨(blk_cell BK221.out 0).trans rfl, (blk_cell BK221.out 1).trans rfl, (blk_cell BK221.out 2).trans rfl⟩ (fun hHeld => ?_); refine with_tabW spec_cuTurn.tab7 spec_cuTurn.bits7 (fun HT_ HW_ => ?_)
   generalize wr.drew = w18 at HO_3 BK221 BK222 HB hHeld ⊢
   refine pu_ (v := ?_) (a' := ?_) 0 (some 30) #[true, false, false, false, false, false, false, false] rfl rfl (any_of HT_.out (by kernel_rfl)) (fun _ _ _ h => h) (.inl ⟨by rfl, ?_⟩) ?_ ?_; rotate_left
   · intro w'; go_simp; with_reducible rfl
   rotate_left
   · simp only [Act.put, sib_, sc0_, sc1_, i64_w, i32_w]; rfl
   refine pu_ (v := ?_) (a' := ?_) 2 (some 32) #[true, false, true, false, false, false, false, false] rfl rfl (any_of HT_.out (by kernel_rfl)) (fun _ _ _ h => h) (.inl ⟨by rfl, ?_⟩) ?_ ?_; rotate_left
   · intro w'; go_simp; with_reducible rfl
   rotate_left
   · simp only [Act.put, sib_, sc0_, sc1_, i64_w, i32_w]; rfl
   refine pu_ (v := ?_) (a' := ?_) 4 (some 34) #[true, false, true, false, true, false, false, false] rfl rfl (any_of HT_.out (by kernel_rfl)) (fun _ _ _ h => h) (.inl ⟨by rfl, ?_⟩) ?_ ?_; rotate_left
   · intro w'; go_simp; with_reducible rfl
   rotate_left
   · simp only [Act.put, sib_, sc0_, sc1_, i64_w, i32_w]; rfl
   refine take_ (i := 1) (N := some 31) (v := ?_) (a' := ?_) #[true, true, true, false, true, false, false, false] rfl rfl (take_ofW HT_.out HW_.out (by kernel_rfl)) (fun _ _ _ h => h) (Or.inl ⟨by rfl, ?_⟩) hHeld ?_ ?_; rotate_left
   ·
    rintro w' ⟨s0, s1, s2⟩
    go_simp
    with_reducible rfl
   rotate_left
   · simp only [Act.put, sib_, sc0_, sc1_, i64_w, i32_w]; rfl
   refine take_ (i := 3) (N := some 33) (v := ?_) (a' := ?_) #[true, true, true, true, true, false, false, false] rfl rfl (take_ofW HT_.out HW_.out (by kernel_rfl)) (fun _ _ _ h => h) (Or.inl ⟨by rfl, ?_⟩) hHeld ?_ ?_; rotate_left
   ·
    rintro w' ⟨s0, s1, s2⟩
    go_simp
    with_reducible rfl
   rotate_left
   · simp only [Act.put, sib_, sc0_, sc1_, i64_w, i32_w]; rfl
   refine one_ (i := 5) (N := some 35) #[true, true, true, true, true, true, false, false] rfl rfl (one_of HT_.out (by kernel_rfl)) (by decide) (fun K hK => ?_)
   refine goes_ Try.func119 (by kernel_rfl) rfl #[.slice Ao19 x3_1.length co19] (by rfl) rfl rfl (by (try simp only [List.map_toArray, List.map_cons, List.map_nil]); first | done | rfl | (simp only [List.length_drop, List.length_take]; rfl)) ?_
   with_reducible refine (spec_cuSorted.calls k1 _ _ x3_1 t228 _ ?side1 ?side2 A17.out).mono ?_
   (case side1 => repeat (first | exact (Kd.R_reads' HO_3.out).2.2 | (with_reducible refine Kd.C_alloc ?_ _) | (with_reducible refine Kd.C_drewN ?_ _) | (with_reducible refine Kd.C_drew ?_)))
   (case side2 => exact (Kd.R_reads' HO_3.out).2.1)
   rintro e w20 ⟨v229, rfl, ho0, hb⟩
   refine ⟨_, rfl, ?_⟩
   have HO230 := As_ (Kd.R_lower (Kd.R_new' ho0 (Kd.R_lt (by (with_reducible repeat (first | apply Kd.R_alloc | apply Kd.R_drewN | apply Kd.R_drew)); exact HO_3.out))) (below_size (by repeat (first | (with_reducible first | exact HB.out | apply ba_ | apply bn_ | apply bd_ | refine below_setA ?_ (by assumption)) | exact HB.out))))
   replace HO_3 := As_ (Kd.R_elder' (by (with_reducible repeat (first | apply Kd.R_alloc | apply Kd.R_drewN | apply Kd.R_drew)); exact HO_3.out) (Kd.R_base ho0) hb)
   replace BK221 := As_ (blk_b hb BK221.out)
   replace BK222 := As_ (blk_b hb BK222.out)
   replace HB := As_ (below_step (by repeat (first | (with_reducible first | exact HB.out | apply ba_ | apply bn_ | apply bd_ | refine below_setA ?_ (by assumption)) | exact HB.out)) hb)
   (try clear hb)
   (try clear hb2)
   (try clear hk)
   (try clear hi)
   (try clear ho0)
   obtain ⟨Ao21, co21, eo21⟩ := Kd.R_slice HO230.out
   (first | subst eo21 | (injection eo21 with f1_ f2_ f3_; have f4_ := f1_.symm; have f5_ := f3_.symm; clear f1_ f2_ f3_; subst f4_; subst f5_))
   refine hK.out _ _ ⟨(blk_cell BK221.out 0).trans rfl, (blk_cell BK221.out 1).trans rfl, (blk_cell BK221.out 2).trans rfl⟩ (fun hHeld => ?_); clear hK K
   refine norm_ (a' := ?_) ?_ ?_; rotate_left
   ·
    show Act.put _ (some 35) _ = _
    simp only [Act.put, sib_, sc0_, sc1_, i64_w, i32_w]
    rfl
   refine pu_ (v := ?_) (a' := ?_) 6 (some 36) #[true, true, true, true, true, true, true, false] rfl rfl (any_of HT_.out (by kernel_rfl)) (fun _ _ _ h => h) (.inl ⟨by rfl, ?_⟩) ?_ ?_; rotate_left
   · intro w'; go_simp; with_reducible rfl
   rotate_left
   · simp only [Act.put, sib_, sc0_, sc1_, i64_w, i32_w]; rfl
   refine one_ (i := 7) (N := none) #[true, true, true, true, true, true, true, true] rfl rfl (one_of HT_.out (by kernel_rfl)) (by decide) (fun K hK => ?_)
   have hs22 : w20.cell? ⟨gb222, 0, none⟩ = some (.int .i64 0) := (blk_cell BK222.out 0).trans rfl
   have hfs22 := blk_frozen BK222.out 0
   have hns22_0 := NB221_222.out
   have hms22_0 := NB222_221.out
   have hs23 : w20.cell? ⟨gb222, 1, none⟩ = some (.int .i64 0) := (blk_cell BK222.out 1).trans rfl
   have hfs23 := blk_frozen BK222.out 1
   have hns23_0 := NB221_222.out
   have hms23_0 := NB222_221.out
   have hs24 : w20.cell? ⟨gb222, 2, none⟩ = some (.slice none 0 0) := (blk_cell BK222.out 2).trans rfl
   have hfs24 := blk_frozen BK222.out 2
   have hns24_0 := NB221_222.out
   have hms24_0 := NB222_221.out
   refine skip_ (w1 := ?_) (by rfl) rfl ?_ ?_; rotate_left
   ·
    go_simp
    rfl
   refine hK.out _ _ ⟨((cell_far (p := ⟨gb222, _, none⟩) NB221_222.out _).trans (((cell_far (p := ⟨gb222, _, none⟩) NB221_222.out _).trans (((cell_far (p := ⟨gb222, _, none⟩) NB221_222.out _).trans (hHeld.1)))))), ((cell_far (p := ⟨gb222, _, none⟩) NB221_222.out _).trans (((cell_far (p := ⟨gb222, _, none⟩) NB221_222.out _).trans (((cell_far (p := ⟨gb222, _, none⟩) NB221_222.out _).trans (hHeld.2.1)))))), ((cell_far (p := ⟨gb222, _, none⟩) NB221_222.out _).trans (((cell_far (p := ⟨gb222, _, none⟩) NB221_222.out _).trans (((cell_far (p := ⟨gb222, _, none⟩) NB221_222.out _).trans (hHeld.2.2))))))⟩ (fun hHeld => ?_); clear hK K
   refine done_ (done_of HT_.out (by kernel_rfl)) ?_
   try go_wp2
   refine bodyPost_ret (results_cell_row rfl _ _ gb222 31 #[.int .i64 a0_1, .int .i64 a0_0, .slice Ao21 t228.length co21] (0, 0) _ rfl (by (with_reducible repeat (first | refine kn_ ?_ _ | refine kd_ ?_ | refine ka_ ?_ _)); refine blk_put (cs := #[.int .i64 a0_1, .int .i64 a0_0, .slice none 0 0]) ?_ 2 _ rfl; refine blk_put (cs := #[.int .i64 a0_1, .int .i64 0, .slice none 0 0]) ?_ 1 _ rfl; refine blk_put (cs := #[.int .i64 0, .int .i64 0, .slice none 0 0]) ?_ 0 _ rfl; (with_reducible repeat (first | refine kn_ ?_ _ | refine kd_ ?_ | refine ka_ ?_ _)); exact BK222.out) Try.underlying31 rfl (by kernel_rfl)) rfl ?_
   exact ⟨_, by first | rfl | (simp <;> rfl) | (simp [*] <;> rfl), by (with_reducible repeat (first | apply Kd.R_alloc | apply Kd.R_drewN | apply Kd.R_drew)); exact Kd.R_mono (Kd.R_far (p := ⟨gb222, 2, none⟩) (Kd.R_far (p := ⟨gb222, 1, none⟩) (Kd.R_far (p := ⟨gb222, 0, none⟩) (Kd.R_types HO230.out BK222.out (by decide)) (fun _ hk => hk.2) (.int .i64 a0_1)) (fun _ hk => hk.2) (.int .i64 a0_0)) (fun _ hk => hk.2) (.slice Ao21 t228.length co21)) (fun _ hk => trivial), by repeat (first | (with_reducible first | exact HB.out | apply ba_ | apply bn_ | apply bd_ | refine below_setA ?_ (by assumption)) | exact HB.out)⟩

/-! ### spec_cuCorners: function 95 -/
def spec_cuCorners.l0 : Nat → Int → Int → Int → List (S87) → Int → Int → Option (Int)
 | 0, _, _, _, _, _, _ => none
 | k + 1, x1, x2, x7, x11, x12, x13 => if x13 < x12 then (if 0 ≤ x13 then (if x13 < (x11.length : Int) then (if x1 = ((rd_T87 x11 x13).f0) then (if x2 = ((rd_T87 x11 x13).f1) then (spec_cuCorners.l0 k x1 x2 (wrap64 (x7 + 1)) x11 x12 (wrap64 (x13 + 1))) else (if x2 = (wrap64 (((rd_T87 x11 x13).f1) + ((rd_T87 x11 x13).f2))) then (spec_cuCorners.l0 k x1 x2 (wrap64 (x7 + 1)) x11 x12 (wrap64 (x13 + 1))) else (spec_cuCorners.l0 k x1 x2 x7 x11 x12 (wrap64 (x13 + 1))))) else (if x1 = (wrap64 (((rd_T87 x11 x13).f0) + ((rd_T87 x11 x13).f2))) then (if x2 = ((rd_T87 x11 x13).f1) then (spec_cuCorners.l0 k x1 x2 (wrap64 (x7 + 1)) x11 x12 (wrap64 (x13 + 1))) else (if x2 = (wrap64 (((rd_T87 x11 x13).f1) + ((rd_T87 x11 x13).f2))) then (spec_cuCorners.l0 k x1 x2 (wrap64 (x7 + 1)) x11 x12 (wrap64 (x13 + 1))) else (spec_cuCorners.l0 k x1 x2 x7 x11 x12 (wrap64 (x13 + 1))))) else (spec_cuCorners.l0 k x1 x2 x7 x11 x12 (wrap64 (x13 + 1))))) else (none)) else (none)) else (some x7)
def spec_cuCorners.f (k : Nat) (a0_0 : Int) (a0_1 : Int) (l0_2 : List (S87)) (a1 : Int) (a2 : Int) : Option (Int) := spec_cuCorners.l0 k a1 a2 0 l0_2 (l0_2.length : Int) 0
theorem spec_cuCorners.mono_l : ∀ k, (∀ y0 y1 y2 y3 y4 y5, LeO (spec_cuCorners.l0 k y0 y1 y2 y3 y4 y5) (spec_cuCorners.l0 (k + 1) y0 y1 y2 y3 y4 y5))
 | 0 => fun _ _ _ _ _ _ r h => by simp [spec_cuCorners.l0] at h
 | k + 1 => by
  have ih0 := spec_cuCorners.mono_l k
  ·
   intro y0 y1 y2 y3 y4 y5
   unfold spec_cuCorners.l0
   repeat' first
   | (with_reducible exact ih0 _ _ _ _ _ _)
   | (with_reducible exact LeO.refl _)
   | (with_reducible exact LeO.none _)
   | (with_reducible refine LeO.ite ?_ ?_)
   | (with_reducible refine LeO.bind ?_ (fun _ => ?_))
   | exact ih0 _ _ _ _ _ _
   | exact LeO.none _
   | refine LeO.ite ?_ ?_
   | refine LeO.bind ?_ (fun _ => ?_)
theorem spec_cuCorners.mono : ∀ a0 a1 a2 a3 a4 k, LeO (spec_cuCorners.f k a0 a1 a2 a3 a4) (spec_cuCorners.f (k + 1) a0 a1 a2 a3 a4) := by
 intro a0 a1 a2 a3 a4 k
 have ih0 := spec_cuCorners.mono_l k
 unfold spec_cuCorners.f
 repeat' first
   | (with_reducible exact ih0 _ _ _ _ _ _)
   | (with_reducible exact LeO.refl _)
   | (with_reducible exact LeO.none _)
   | (with_reducible refine LeO.ite ?_ ?_)
   | (with_reducible refine LeO.bind ?_ (fun _ => ?_))
   | exact ih0 _ _ _ _ _ _
   | exact LeO.none _
   | refine LeO.ite ?_ ?_
   | refine LeO.bind ?_ (fun _ => ?_)
set_option maxHeartbeats 8000000 in
set_option maxRecDepth 100000 in
theorem spec_cuCorners.calls (k : Nat) (a0_0 : Int) (a0_1 : Int) (A0_2 : Option Addr) (c0_2 : Nat) (l0_2 : List (S87)) (a1 : Int) (a2 : Int) (r : Int) (w : World) (hr0_2 : Kd.C k87 w A0_2 l0_2.length l0_2) (hc0_2 : l0_2.length ≤ c0_2) (h : spec_cuCorners.f k a0_0 a0_1 l0_2 a1 a2 = some r) :
  Calls Try.prog 95 #[.agg #[.int .i64 a0_0, .int .i64 a0_1, .slice A0_2 l0_2.length c0_2], .int .i64 a1, .int .i64 a2] w fun e w' => e = .returned (.int .i64 r) ∧ Below w.heap.size w w' := by
 have hu31 := Try.underlying31
 have hu87 := Try.underlying87
 have HR0_2 := As_ hr0_2
 have HC0_2 := As_ hc0_2
 clear hr0_2 hc0_2
 have HB := As_ (Below.refl w.heap.size w)
 have H : (spec_cuCorners.l0 k a1 a2 0 l0_2 (l0_2.length : Int) 0) = some r := h
 clear h
 have H' := As_ H
 clear H
 go_enter Try.func95, Try.ntmps95
 go_wp2_with (first | ((with_reducible refine gate_dst (N := 3) rfl ?_); refine box_event rfl (N := 3) rfl (cs := #[.int .i64 a0_0, .int .i64 a0_1, .slice A0_2 l0_2.length c0_2]) (t := 31) ?hr ?_; (case hr => first | (go_simp; done) | (go_simp; rfl)); intro gb231 hg w4 hbox hb; have BK231 := As_ (hbox); have hW_ := bel_ w hb (by repeat (first | (with_reducible first | exact HB.out | apply ba_ | apply bn_ | apply bd_) | exact HB.out)); have GE231 := As_ (gesz hg hW_); replace HB := As_ (below_step hW_ hb); clear hW_ hb hbox hg; obtain ⟨hcz5_0, hcz5_1, hcz5_2⟩ := c3_ (w := w4) BK231.out; obtain ⟨hfz5_0, hfz5_1, hfz5_2⟩ := z3_ BK231.out))
 go_loopg [7, 13] k (fun kq v7 v13 w' => ∃ (x7_1 : Int) (x13_1 : Int), v7 = .int .i64 x7_1 ∧ v13 = .int .i64 x13_1 ∧ Aside0 (spec_cuCorners.l0 kq a1 a2 x7_1 l0_2 (l0_2.length : Int) x13_1 = some r) ∧ Aside0 (kq ≤ k) ∧ Aside0 (w'.heap[gb231]? = some (.cells #[.int .i64 a0_0, .int .i64 a0_1, (.slice A0_2 l0_2.length c0_2)] 31 (0, 0))) ∧ Aside0 (Below w.heap.size w w'))
 case atStart => exact ⟨(0), (0), (by first | rfl | (simp; done) | (simp [*]; done)), (by first | rfl | (simp; done) | (simp [*]; done)), H', ⟨Nat.le_refl _⟩, ⟨by (with_reducible repeat (first | refine kn_ ?_ _ | refine kd_ ?_ | refine ka_ ?_ _)); exact BK231.out⟩, ⟨by repeat (first | (with_reducible first | exact HB.out | apply ba_ | apply bn_ | apply bd_ | refine bs_ ?_ GE231.out) | exact HB.out)⟩⟩
 case round =>
  clear H'
  try clear p2; try clear hcz5_0 hcz5_1 hcz5_2; try clear hfz5_0 hfz5_1 hfz5_2
  obtain ⟨x7_1, x13_1, rfl, rfl, HA, HK1, BK231, HB⟩ := hrel
  rcases gk with _ | k1
  · exact absurd HA.out (by simp [spec_cuCorners.l0])
  have H := HA.out
  clear HA
  simp only [spec_cuCorners.l0] at H
  by_cases c6 : x13_1 < (l0_2.length : Int)
  ·
   rw [if_pos c6] at H
   have c6b0 : decide (x13_1 < (l0_2.length : Int)) = true := decide_eq_true c6
   clear c6
   by_cases c7 : 0 ≤ x13_1
   case neg => rw [if_neg c7] at H; exact absurd H (by simp)
   rw [if_pos c7] at H
   have c7b0 : decide (0 ≤ x13_1) = true := decide_eq_true c7
   clear c7
   by_cases c8 : x13_1 < (l0_2.length : Int)
   case neg => rw [if_neg c8] at H; exact absurd H (by simp)
   rw [if_pos c8] at H
   have c8b0 : decide (x13_1 < (l0_2.length : Int)) = true := decide_eq_true c8
   clear c8
   by_cases c9 : a1 = ((rd_T87 l0_2 x13_1).f0)
   ·
    rw [if_pos c9] at H
    have c9b0 : (a1 == ((rd_T87 l0_2 x13_1).f0)) = true := beq_iff_eq.mpr c9
    have c9b1 : (a1 != ((rd_T87 l0_2 x13_1).f0)) = false := bne_eq_false_iff_eq.mpr c9
    clear c9
    by_cases c10 : a2 = ((rd_T87 l0_2 x13_1).f1)
    ·
     rw [if_pos c10] at H
     have c10b0 : (a2 == ((rd_T87 l0_2 x13_1).f1)) = true := beq_iff_eq.mpr c10
     have c10b1 : (a2 != ((rd_T87 l0_2 x13_1).f1)) = false := bne_eq_false_iff_eq.mpr c10
     clear c10
     have H' := As_ H
     clear H
     have p232 : 0 ≤ (x13_1 : Int) := of_decide_eq_true (by first | (with_reducible assumption) | assumption)
     have q232 : x13_1 < (l0_2.length : Int) := of_decide_eq_true (by first | (with_reducible assumption) | assumption)
     obtain ⟨ad232, e232, hx232_0, hx232_1, hx232_2⟩ := at_T87 HR0_2.out x13_1 p232 q232
     cases e232
     replace hx232_0 := pw_cell_below HB.out hx232_0
     replace hx232_1 := pw_cell_below HB.out hx232_1
     replace hx232_2 := pw_cell_below HB.out hx232_2
     replace p232 := eq_true p232
     replace q232 := eq_true q232
     go_wp2_with (first | ((with_reducible refine gate_dst (N := 9) rfl ?_); refine box_event rfl (N := 9) rfl (cs := #[.int .i64 0, .int .i64 0, .int .i64 0]) (t := 87) ?hr ?_; (case hr => first | (go_simp; done) | (go_simp; rfl)); intro gb233 hg w11 hbox hb; have BK233 := As_ (hbox); have hW_ := bel_ w hb (by repeat (first | (with_reducible first | exact HB.out | apply ba_ | apply bn_ | apply bd_ | refine bs_ ?_ GE231.out) | exact HB.out)); have GE233 := As_ (gesz hg hW_); have NB231_233 := As_ (ne_lt hg BK231.out); have NB233_231 := As_ (ne_gt hg BK231.out); replace BK231 := As_ (blk_b hb BK231.out); replace HB := As_ (below_step hW_ hb); clear hW_ hb hbox hg; have hnb12 := NB233_231.out; have hnc12 := NB231_233.out; obtain ⟨hcz13_0, hcz13_1, hcz13_2⟩ := c3_ (w := w11) BK233.out; obtain ⟨hfz13_0, hfz13_1, hfz13_2⟩ := z3_ BK233.out))
     go_roundg k1
     case measure => have := HK1.out; omega
     case rel => exact ⟨(wrap64 (x7_1 + 1)), (wrap64 (x13_1 + 1)), (by first | rfl | (simp; done) | (simp [*]; done)), (by first | rfl | (simp; done) | (simp [*]; done)), H', ⟨by have := HK1.out; omega⟩, ⟨by (with_reducible repeat (first | refine kn_ ?_ _ | refine kd_ ?_ | refine ka_ ?_ _)); refine blk_far ?_ NB231_233.out _; refine blk_far ?_ NB231_233.out _; refine blk_far ?_ NB231_233.out _; (with_reducible repeat (first | refine kn_ ?_ _ | refine kd_ ?_ | refine ka_ ?_ _)); exact BK231.out⟩, ⟨by repeat (first | (with_reducible first | exact HB.out | apply ba_ | apply bn_ | apply bd_ | refine below_setA ?_ (by assumption)) | exact HB.out)⟩⟩
    ·
     rw [if_neg c10] at H
     have c10b0 : (a2 == ((rd_T87 l0_2 x13_1).f1)) = false := beq_eq_false_iff_ne.mpr c10
     have c10b1 : (a2 != ((rd_T87 l0_2 x13_1).f1)) = true := bne_iff_ne.mpr c10
     by_cases c14 : a2 = (wrap64 (((rd_T87 l0_2 x13_1).f1) + ((rd_T87 l0_2 x13_1).f2)))
     ·
      rw [if_pos c14] at H
      have c14b0 : (a2 == (wrap64 (((rd_T87 l0_2 x13_1).f1) + ((rd_T87 l0_2 x13_1).f2)))) = true := beq_iff_eq.mpr c14
      have c14b1 : (a2 != (wrap64 (((rd_T87 l0_2 x13_1).f1) + ((rd_T87 l0_2 x13_1).f2)))) = false := bne_eq_false_iff_eq.mpr c14
      clear c14
      have H' := As_ H
      clear H
      have p232 : 0 ≤ (x13_1 : Int) := of_decide_eq_true (by first | (with_reducible assumption) | assumption)
      have q232 : x13_1 < (l0_2.length : Int) := of_decide_eq_true (by first | (with_reducible assumption) | assumption)
      obtain ⟨ad232, e232, hx232_0, hx232_1, hx232_2⟩ := at_T87 HR0_2.out x13_1 p232 q232
      cases e232
      replace hx232_0 := pw_cell_below HB.out hx232_0
      replace hx232_1 := pw_cell_below HB.out hx232_1
      replace hx232_2 := pw_cell_below HB.out hx232_2
      replace p232 := eq_true p232
      replace q232 := eq_true q232
      go_wp2_with (first | ((with_reducible refine gate_dst (N := 9) rfl ?_); refine box_event rfl (N := 9) rfl (cs := #[.int .i64 0, .int .i64 0, .int .i64 0]) (t := 87) ?hr ?_; (case hr => first | (go_simp; done) | (go_simp; rfl)); intro gb233 hg w15 hbox hb; have BK233 := As_ (hbox); have hW_ := bel_ w hb (by repeat (first | (with_reducible first | exact HB.out | apply ba_ | apply bn_ | apply bd_ | refine bs_ ?_ GE231.out) | exact HB.out)); have GE233 := As_ (gesz hg hW_); have NB231_233 := As_ (ne_lt hg BK231.out); have NB233_231 := As_ (ne_gt hg BK231.out); replace BK231 := As_ (blk_b hb BK231.out); replace HB := As_ (below_step hW_ hb); clear hW_ hb hbox hg; have hnb16 := NB233_231.out; have hnc16 := NB231_233.out; obtain ⟨hcz17_0, hcz17_1, hcz17_2⟩ := c3_ (w := w15) BK233.out; obtain ⟨hfz17_0, hfz17_1, hfz17_2⟩ := z3_ BK233.out))
      go_roundg k1
      case measure => have := HK1.out; omega
      case rel => exact ⟨(wrap64 (x7_1 + 1)), (wrap64 (x13_1 + 1)), (by first | rfl | (simp; done) | (simp [*]; done)), (by first | rfl | (simp; done) | (simp [*]; done)), H', ⟨by have := HK1.out; omega⟩, ⟨by (with_reducible repeat (first | refine kn_ ?_ _ | refine kd_ ?_ | refine ka_ ?_ _)); refine blk_far ?_ NB231_233.out _; refine blk_far ?_ NB231_233.out _; refine blk_far ?_ NB231_233.out _; (with_reducible repeat (first | refine kn_ ?_ _ | refine kd_ ?_ | refine ka_ ?_ _)); exact BK231.out⟩, ⟨by repeat (first | (with_reducible first | exact HB.out | apply ba_ | apply bn_ | apply bd_ | refine below_setA ?_ (by assumption)) | exact HB.out)⟩⟩
     ·
      rw [if_neg c14] at H
      have c14b0 : (a2 == (wrap64 (((rd_T87 l0_2 x13_1).f1) + ((rd_T87 l0_2 x13_1).f2)))) = false := beq_eq_false_iff_ne.mpr c14
      have c14b1 : (a2 != (wrap64 (((rd_T87 l0_2 x13_1).f1) + ((rd_T87 l0_2 x13_1).f2)))) = true := bne_iff_ne.mpr c14
      have H' := As_ H
      clear H
      have p232 : 0 ≤ (x13_1 : Int) := of_decide_eq_true (by first | (with_reducible assumption) | assumption)
      have q232 : x13_1 < (l0_2.length : Int) := of_decide_eq_true (by first | (with_reducible assumption) | assumption)
      obtain ⟨ad232, e232, hx232_0, hx232_1, hx232_2⟩ := at_T87 HR0_2.out x13_1 p232 q232
      cases e232
      replace hx232_0 := pw_cell_below HB.out hx232_0
      replace hx232_1 := pw_cell_below HB.out hx232_1
      replace hx232_2 := pw_cell_below HB.out hx232_2
      replace p232 := eq_true p232
      replace q232 := eq_true q232
      go_wp2_with (first | ((with_reducible refine gate_dst (N := 9) rfl ?_); refine box_event rfl (N := 9) rfl (cs := #[.int .i64 0, .int .i64 0, .int .i64 0]) (t := 87) ?hr ?_; (case hr => first | (go_simp; done) | (go_simp; rfl)); intro gb233 hg w18 hbox hb; have BK233 := As_ (hbox); have hW_ := bel_ w hb (by repeat (first | (with_reducible first | exact HB.out | apply ba_ | apply bn_ | apply bd_ | refine bs_ ?_ GE231.out) | exact HB.out)); have GE233 := As_ (gesz hg hW_); have NB231_233 := As_ (ne_lt hg BK231.out); have NB233_231 := As_ (ne_gt hg BK231.out); replace BK231 := As_ (blk_b hb BK231.out); replace HB := As_ (below_step hW_ hb); clear hW_ hb hbox hg; have hnb19 := NB233_231.out; have hnc19 := NB231_233.out; obtain ⟨hcz20_0, hcz20_1, hcz20_2⟩ := c3_ (w := w18) BK233.out; obtain ⟨hfz20_0, hfz20_1, hfz20_2⟩ := z3_ BK233.out))
      go_roundg k1
      case measure => have := HK1.out; omega
      case rel => exact ⟨(x7_1), (wrap64 (x13_1 + 1)), (by first | rfl | (simp; done) | (simp [*]; done)), (by first | rfl | (simp; done) | (simp [*]; done)), H', ⟨by have := HK1.out; omega⟩, ⟨by (with_reducible repeat (first | refine kn_ ?_ _ | refine kd_ ?_ | refine ka_ ?_ _)); refine blk_far ?_ NB231_233.out _; refine blk_far ?_ NB231_233.out _; refine blk_far ?_ NB231_233.out _; (with_reducible repeat (first | refine kn_ ?_ _ | refine kd_ ?_ | refine ka_ ?_ _)); exact BK231.out⟩, ⟨by repeat (first | (with_reducible first | exact HB.out | apply ba_ | apply bn_ | apply bd_ | refine below_setA ?_ (by assumption)) | exact HB.out)⟩⟩
   ·
    rw [if_neg c9] at H
    have c9b0 : (a1 == ((rd_T87 l0_2 x13_1).f0)) = false := beq_eq_false_iff_ne.mpr c9
    have c9b1 : (a1 != ((rd_T87 l0_2 x13_1).f0)) = true := bne_iff_ne.mpr c9
    by_cases c21 : a1 = (wrap64 (((rd_T87 l0_2 x13_1).f0) + ((rd_T87 l0_2 x13_1).f2)))
    ·
     rw [if_pos c21] at H
     have c21b0 : (a1 == (wrap64 (((rd_T87 l0_2 x13_1).f0) + ((rd_T87 l0_2 x13_1).f2)))) = true := beq_iff_eq.mpr c21
     have c21b1 : (a1 != (wrap64 (((rd_T87 l0_2 x13_1).f0) + ((rd_T87 l0_2 x13_1).f2)))) = false := bne_eq_false_iff_eq.mpr c21
     clear c21
     by_cases c22 : a2 = ((rd_T87 l0_2 x13_1).f1)
     ·
      rw [if_pos c22] at H
      have c22b0 : (a2 == ((rd_T87 l0_2 x13_1).f1)) = true := beq_iff_eq.mpr c22
      have c22b1 : (a2 != ((rd_T87 l0_2 x13_1).f1)) = false := bne_eq_false_iff_eq.mpr c22
      clear c22
      have H' := As_ H
      clear H
      have p232 : 0 ≤ (x13_1 : Int) := of_decide_eq_true (by first | (with_reducible assumption) | assumption)
      have q232 : x13_1 < (l0_2.length : Int) := of_decide_eq_true (by first | (with_reducible assumption) | assumption)
      obtain ⟨ad232, e232, hx232_0, hx232_1, hx232_2⟩ := at_T87 HR0_2.out x13_1 p232 q232
      cases e232
      replace hx232_0 := pw_cell_below HB.out hx232_0
      replace hx232_1 := pw_cell_below HB.out hx232_1
      replace hx232_2 := pw_cell_below HB.out hx232_2
      replace p232 := eq_true p232
      replace q232 := eq_true q232
      go_wp2_with (first | ((with_reducible refine gate_dst (N := 9) rfl ?_); refine box_event rfl (N := 9) rfl (cs := #[.int .i64 0, .int .i64 0, .int .i64 0]) (t := 87) ?hr ?_; (case hr => first | (go_simp; done) | (go_simp; rfl)); intro gb233 hg w23 hbox hb; have BK233 := As_ (hbox); have hW_ := bel_ w hb (by repeat (first | (with_reducible first | exact HB.out | apply ba_ | apply bn_ | apply bd_ | refine bs_ ?_ GE231.out) | exact HB.out)); have GE233 := As_ (gesz hg hW_); have NB231_233 := As_ (ne_lt hg BK231.out); have NB233_231 := As_ (ne_gt hg BK231.out); replace BK231 := As_ (blk_b hb BK231.out); replace HB := As_ (below_step hW_ hb); clear hW_ hb hbox hg; have hnb24 := NB233_231.out; have hnc24 := NB231_233.out; obtain ⟨hcz25_0, hcz25_1, hcz25_2⟩ := c3_ (w := w23) BK233.out; obtain ⟨hfz25_0, hfz25_1, hfz25_2⟩ := z3_ BK233.out))
      go_roundg k1
      case measure => have := HK1.out; omega
      case rel => exact ⟨(wrap64 (x7_1 + 1)), (wrap64 (x13_1 + 1)), (by first | rfl | (simp; done) | (simp [*]; done)), (by first | rfl | (simp; done) | (simp [*]; done)), H', ⟨by have := HK1.out; omega⟩, ⟨by (with_reducible repeat (first | refine kn_ ?_ _ | refine kd_ ?_ | refine ka_ ?_ _)); refine blk_far ?_ NB231_233.out _; refine blk_far ?_ NB231_233.out _; refine blk_far ?_ NB231_233.out _; (with_reducible repeat (first | refine kn_ ?_ _ | refine kd_ ?_ | refine ka_ ?_ _)); exact BK231.out⟩, ⟨by repeat (first | (with_reducible first | exact HB.out | apply ba_ | apply bn_ | apply bd_ | refine below_setA ?_ (by assumption)) | exact HB.out)⟩⟩
     ·
      rw [if_neg c22] at H
      have c22b0 : (a2 == ((rd_T87 l0_2 x13_1).f1)) = false := beq_eq_false_iff_ne.mpr c22
      have c22b1 : (a2 != ((rd_T87 l0_2 x13_1).f1)) = true := bne_iff_ne.mpr c22
      by_cases c26 : a2 = (wrap64 (((rd_T87 l0_2 x13_1).f1) + ((rd_T87 l0_2 x13_1).f2)))
      ·
       rw [if_pos c26] at H
       have c26b0 : (a2 == (wrap64 (((rd_T87 l0_2 x13_1).f1) + ((rd_T87 l0_2 x13_1).f2)))) = true := beq_iff_eq.mpr c26
       have c26b1 : (a2 != (wrap64 (((rd_T87 l0_2 x13_1).f1) + ((rd_T87 l0_2 x13_1).f2)))) = false := bne_eq_false_iff_eq.mpr c26
       clear c26
       have H' := As_ H
       clear H
       have p232 : 0 ≤ (x13_1 : Int) := of_decide_eq_true (by first | (with_reducible assumption) | assumption)
       have q232 : x13_1 < (l0_2.length : Int) := of_decide_eq_true (by first | (with_reducible assumption) | assumption)
       obtain ⟨ad232, e232, hx232_0, hx232_1, hx232_2⟩ := at_T87 HR0_2.out x13_1 p232 q232
       cases e232
       replace hx232_0 := pw_cell_below HB.out hx232_0
       replace hx232_1 := pw_cell_below HB.out hx232_1
       replace hx232_2 := pw_cell_below HB.out hx232_2
       replace p232 := eq_true p232
       replace q232 := eq_true q232
       go_wp2_with (first | ((with_reducible refine gate_dst (N := 9) rfl ?_); refine box_event rfl (N := 9) rfl (cs := #[.int .i64 0, .int .i64 0, .int .i64 0]) (t := 87) ?hr ?_; (case hr => first | (go_simp; done) | (go_simp; rfl)); intro gb233 hg w27 hbox hb; have BK233 := As_ (hbox); have hW_ := bel_ w hb (by repeat (first | (with_reducible first | exact HB.out | apply ba_ | apply bn_ | apply bd_ | refine bs_ ?_ GE231.out) | exact HB.out)); have GE233 := As_ (gesz hg hW_); have NB231_233 := As_ (ne_lt hg BK231.out); have NB233_231 := As_ (ne_gt hg BK231.out); replace BK231 := As_ (blk_b hb BK231.out); replace HB := As_ (below_step hW_ hb); clear hW_ hb hbox hg; have hnb28 := NB233_231.out; have hnc28 := NB231_233.out; obtain ⟨hcz29_0, hcz29_1, hcz29_2⟩ := c3_ (w := w27) BK233.out; obtain ⟨hfz29_0, hfz29_1, hfz29_2⟩ := z3_ BK233.out))
       go_roundg k1
       case measure => have := HK1.out; omega
       case rel => exact ⟨(wrap64 (x7_1 + 1)), (wrap64 (x13_1 + 1)), (by first | rfl | (simp; done) | (simp [*]; done)), (by first | rfl | (simp; done) | (simp [*]; done)), H', ⟨by have := HK1.out; omega⟩, ⟨by (with_reducible repeat (first | refine kn_ ?_ _ | refine kd_ ?_ | refine ka_ ?_ _)); refine blk_far ?_ NB231_233.out _; refine blk_far ?_ NB231_233.out _; refine blk_far ?_ NB231_233.out _; (with_reducible repeat (first | refine kn_ ?_ _ | refine kd_ ?_ | refine ka_ ?_ _)); exact BK231.out⟩, ⟨by repeat (first | (with_reducible first | exact HB.out | apply ba_ | apply bn_ | apply bd_ | refine below_setA ?_ (by assumption)) | exact HB.out)⟩⟩
      ·
       rw [if_neg c26] at H
       have c26b0 : (a2 == (wrap64 (((rd_T87 l0_2 x13_1).f1) + ((rd_T87 l0_2 x13_1).f2)))) = false := beq_eq_false_iff_ne.mpr c26
       have c26b1 : (a2 != (wrap64 (((rd_T87 l0_2 x13_1).f1) + ((rd_T87 l0_2 x13_1).f2)))) = true := bne_iff_ne.mpr c26
       have H' := As_ H
       clear H
       have p232 : 0 ≤ (x13_1 : Int) := of_decide_eq_true (by first | (with_reducible assumption) | assumption)
       have q232 : x13_1 < (l0_2.length : Int) := of_decide_eq_true (by first | (with_reducible assumption) | assumption)
       obtain ⟨ad232, e232, hx232_0, hx232_1, hx232_2⟩ := at_T87 HR0_2.out x13_1 p232 q232
       cases e232
       replace hx232_0 := pw_cell_below HB.out hx232_0
       replace hx232_1 := pw_cell_below HB.out hx232_1
       replace hx232_2 := pw_cell_below HB.out hx232_2
       replace p232 := eq_true p232
       replace q232 := eq_true q232
       go_wp2_with (first | ((with_reducible refine gate_dst (N := 9) rfl ?_); refine box_event rfl (N := 9) rfl (cs := #[.int .i64 0, .int .i64 0, .int .i64 0]) (t := 87) ?hr ?_; (case hr => first | (go_simp; done) | (go_simp; rfl)); intro gb233 hg w30 hbox hb; have BK233 := As_ (hbox); have hW_ := bel_ w hb (by repeat (first | (with_reducible first | exact HB.out | apply ba_ | apply bn_ | apply bd_ | refine bs_ ?_ GE231.out) | exact HB.out)); have GE233 := As_ (gesz hg hW_); have NB231_233 := As_ (ne_lt hg BK231.out); have NB233_231 := As_ (ne_gt hg BK231.out); replace BK231 := As_ (blk_b hb BK231.out); replace HB := As_ (below_step hW_ hb); clear hW_ hb hbox hg; have hnb31 := NB233_231.out; have hnc31 := NB231_233.out; obtain ⟨hcz32_0, hcz32_1, hcz32_2⟩ := c3_ (w := w30) BK233.out; obtain ⟨hfz32_0, hfz32_1, hfz32_2⟩ := z3_ BK233.out))
       go_roundg k1
       case measure => have := HK1.out; omega
       case rel => exact ⟨(x7_1), (wrap64 (x13_1 + 1)), (by first | rfl | (simp; done) | (simp [*]; done)), (by first | rfl | (simp; done) | (simp [*]; done)), H', ⟨by have := HK1.out; omega⟩, ⟨by (with_reducible repeat (first | refine kn_ ?_ _ | refine kd_ ?_ | refine ka_ ?_ _)); refine blk_far ?_ NB231_233.out _; refine blk_far ?_ NB231_233.out _; refine blk_far ?_ NB231_233.out _; (with_reducible repeat (first | refine kn_ ?_ _ | refine kd_ ?_ | refine ka_ ?_ _)); exact BK231.out⟩, ⟨by repeat (first | (with_reducible first | exact HB.out | apply ba_ | apply bn_ | apply bd_ | refine below_setA ?_ (by assumption)) | exact HB.out)⟩⟩
    ·
     rw [if_neg c21] at H
     have c21b0 : (a1 == (wrap64 (((rd_T87 l0_2 x13_1).f0) + ((rd_T87 l0_2 x13_1).f2)))) = false := beq_eq_false_iff_ne.mpr c21
     have c21b1 : (a1 != (wrap64 (((rd_T87 l0_2 x13_1).f0) + ((rd_T87 l0_2 x13_1).f2)))) = true := bne_iff_ne.mpr c21
     have H' := As_ H
     clear H
     have p232 : 0 ≤ (x13_1 : Int) := of_decide_eq_true (by first | (with_reducible assumption) | assumption)
     have q232 : x13_1 < (l0_2.length : Int) := of_decide_eq_true (by first | (with_reducible assumption) | assumption)
     obtain ⟨ad232, e232, hx232_0, hx232_1, hx232_2⟩ := at_T87 HR0_2.out x13_1 p232 q232
     cases e232
     replace hx232_0 := pw_cell_below HB.out hx232_0
     replace hx232_1 := pw_cell_below HB.out hx232_1
     replace hx232_2 := pw_cell_below HB.out hx232_2
     replace p232 := eq_true p232
     replace q232 := eq_true q232
     go_wp2_with (first | ((with_reducible refine gate_dst (N := 9) rfl ?_); refine box_event rfl (N := 9) rfl (cs := #[.int .i64 0, .int .i64 0, .int .i64 0]) (t := 87) ?hr ?_; (case hr => first | (go_simp; done) | (go_simp; rfl)); intro gb233 hg w33 hbox hb; have BK233 := As_ (hbox); have hW_ := bel_ w hb (by repeat (first | (with_reducible first | exact HB.out | apply ba_ | apply bn_ | apply bd_ | refine bs_ ?_ GE231.out) | exact HB.out)); have GE233 := As_ (gesz hg hW_); have NB231_233 := As_ (ne_lt hg BK231.out); have NB233_231 := As_ (ne_gt hg BK231.out); replace BK231 := As_ (blk_b hb BK231.out); replace HB := As_ (below_step hW_ hb); clear hW_ hb hbox hg; have hnb34 := NB233_231.out; have hnc34 := NB231_233.out; obtain ⟨hcz35_0, hcz35_1, hcz35_2⟩ := c3_ (w := w33) BK233.out; obtain ⟨hfz35_0, hfz35_1, hfz35_2⟩ := z3_ BK233.out))
     go_roundg k1
     case measure => have := HK1.out; omega
     case rel => exact ⟨(x7_1), (wrap64 (x13_1 + 1)), (by first | rfl | (simp; done) | (simp [*]; done)), (by first | rfl | (simp; done) | (simp [*]; done)), H', ⟨by have := HK1.out; omega⟩, ⟨by (with_reducible repeat (first | refine kn_ ?_ _ | refine kd_ ?_ | refine ka_ ?_ _)); refine blk_far ?_ NB231_233.out _; refine blk_far ?_ NB231_233.out _; refine blk_far ?_ NB231_233.out _; (with_reducible repeat (first | refine kn_ ?_ _ | refine kd_ ?_ | refine ka_ ?_ _)); exact BK231.out⟩, ⟨by repeat (first | (with_reducible first | exact HB.out | apply ba_ | apply bn_ | apply bd_ | refine below_setA ?_ (by assumption)) | exact HB.out)⟩⟩
  ·
   rw [if_neg c6] at H
   have c6b0 : decide (x13_1 < (l0_2.length : Int)) = false := decide_eq_false c6
   clear c6
   obtain rfl := Option.some.inj H
   go_wp2
   go_ret
   exact ⟨by first | rfl | (simp <;> rfl) | (simp [*] <;> rfl), by repeat (first | (with_reducible first | exact HB.out | apply ba_ | apply bn_ | apply bd_ | refine bs_ ?_ GE231.out) | exact HB.out)⟩

end Go.Proofs.Ytipiaiolhhnnhaa.PFnExactMakePuzzle
