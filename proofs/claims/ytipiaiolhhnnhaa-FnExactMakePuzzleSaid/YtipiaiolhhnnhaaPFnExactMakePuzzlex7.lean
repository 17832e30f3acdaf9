-- Written by a program of this session (wip/tools/pg.py) out of the translation.
import Derived.Test.YtipiaiolhhnnhaaPFnExactMakePuzzlex0
import Derived.Test.YtipiaiolhhnnhaaPFnExactMakePuzzlex2
namespace Go.Proofs.Ytipiaiolhhnnhaa.PFnExactMakePuzzle
open Go.RowKit Go.Proofs.YtipiaiolhhnnhaaW.PrintWords Go.Proofs.YtipiaiolhhnnhaaW.PrintLast Go.Proofs.YtipiaiolhhnnhaaW.PrintMore Go.Proofs.YtipiaiolhhnnhaaH
attribute [local go_sem] max2_int min2_int max_two min_two max_three min_three max_four min_four   -- for this text's walks alone
set_option linter.unusedVariables false
set_option linter.unusedSimpArgs false

/-! ### spec_cuSorted: function 119 -/
mutual
def spec_cuSorted.l0 : Nat → List (S87) → List (S87) → Int → Int → Option ((List (S87)))
 | 0, _, _, _, _ => none
 | k + 1, x3, x8, x9, x10 => if x10 < x9 then (if 0 ≤ x10 then (if x10 < (x8.length : Int) then (spec_cuSorted.l1 k x3 (x3.length : Int) x8 x9 x10 ((rd_T87 x8 x10).f0) ((rd_T87 x8 x10).f1) ((rd_T87 x8 x10).f2)) else (none)) else (none)) else (some x3)
def spec_cuSorted.l1 : Nat → List (S87) → Int → List (S87) → Int → Int → Int → Int → Int → Option ((List (S87)))
 | 0, _, _, _, _, _, _, _, _ => none
 | k + 1, x3, x6, x8, x9, x10, x173000, x173001, x173002 => if x6 > 0 then (if 0 ≤ (wrap64 (x6 - 1)) then (if (wrap64 (x6 - 1)) < (x3.length : Int) then ((spec_cuLess.f x173000 x173001 x173002 ((rd_T87 x3 (wrap64 (x6 - 1))).f0) ((rd_T87 x3 (wrap64 (x6 - 1))).f1) ((rd_T87 x3 (wrap64 (x6 - 1))).f2)).bind fun t174 => (if t174 = true then (spec_cuSorted.l1 k x3 (wrap64 (x6 - 1)) x8 x9 x10 x173000 x173001 x173002) else ((some (([] : List (S87)) : List (S87))).bind fun y175 => (if 0 ≤ x6 then (if x6 ≤ (x3.length : Int) then ((some (x3.take (x6 : Int).toNat : List (S87))).bind fun y178 => (if y175.length + y178.length < 5864062014805 then ((some (y175 ++ y178 : List (S87))).bind fun y182 => ((some (([(⟨x173000, x173001, x173002⟩ : S87)] : List (S87)) : List (S87))).bind fun y185 => (if y182.length + y185.length < 5864062014805 then ((some (y182 ++ y185 : List (S87))).bind fun y188 => ((some (x3.drop (x6 : Int).toNat : List (S87))).bind fun y191 => (if y188.length + y191.length < 5864062014805 then (spec_cuSorted.l0 k (y188 ++ y191) x8 x9 (wrap64 (x10 + 1))) else (none)))) else (none)))) else (none))) else (none)) else (none))))) else (none)) else (none)) else ((some (([] : List (S87)) : List (S87))).bind fun y198 => (if 0 ≤ x6 then (if x6 ≤ (x3.length : Int) then ((some (x3.take (x6 : Int).toNat : List (S87))).bind fun y201 => (if y198.length + y201.length < 5864062014805 then ((some (y198 ++ y201 : List (S87))).bind fun y205 => ((some (([(⟨x173000, x173001, x173002⟩ : S87)] : List (S87)) : List (S87))).bind fun y208 => (if y205.length + y208.length < 5864062014805 then ((some (y205 ++ y208 : List (S87))).bind fun y211 => ((some (x3.drop (x6 : Int).toNat : List (S87))).bind fun y214 => (if y211.length + y214.length < 5864062014805 then (spec_cuSorted.l0 k (y211 ++ y214) x8 x9 (wrap64 (x10 + 1))) else (none)))) else (none)))) else (none))) else (none)) else (none)))
end
def spec_cuSorted.f (k : Nat) (l0 : List (S87)) : Option ((List (S87))) := spec_cuSorted.l0 k ([] : List (S87)) l0 (l0.length : Int) 0
theorem spec_cuSorted.mono_l : ∀ k, (∀ y0 y1 y2 y3, LeO (spec_cuSorted.l0 k y0 y1 y2 y3) (spec_cuSorted.l0 (k + 1) y0 y1 y2 y3)) ∧ (∀ y0 y1 y2 y3 y4 y5 y6 y7, LeO (spec_cuSorted.l1 k y0 y1 y2 y3 y4 y5 y6 y7) (spec_cuSorted.l1 (k + 1) y0 y1 y2 y3 y4 y5 y6 y7))
 | 0 => ⟨fun _ _ _ _ r h => by simp [spec_cuSorted.l0] at h, fun _ _ _ _ _ _ _ _ r h => by simp [spec_cuSorted.l1] at h⟩
 | k + 1 => by
  obtain ⟨ih0, ih1⟩ := spec_cuSorted.mono_l k
  refine ⟨?_, ?_⟩
  ·
   intro y0 y1 y2 y3
   unfold spec_cuSorted.l0
   repeat' first
   | (with_reducible exact ih0 _ _ _ _)
   | (with_reducible exact ih1 _ _ _ _ _ _ _ _)
   | (with_reducible exact LeO.refl _)
   | (with_reducible exact LeO.none _)
   | (with_reducible refine LeO.ite ?_ ?_)
   | (with_reducible refine LeO.bind ?_ (fun _ => ?_))
   | exact ih0 _ _ _ _
   | exact ih1 _ _ _ _ _ _ _ _
   | exact LeO.none _
   | refine LeO.ite ?_ ?_
   | refine LeO.bind ?_ (fun _ => ?_)
  ·
   intro y0 y1 y2 y3 y4 y5 y6 y7
   unfold spec_cuSorted.l1
   repeat' first
   | (with_reducible exact ih0 _ _ _ _)
   | (with_reducible exact ih1 _ _ _ _ _ _ _ _)
   | (with_reducible exact LeO.refl _)
   | (with_reducible exact LeO.none _)
   | (with_reducible refine LeO.ite ?_ ?_)
   | (with_reducible refine LeO.bind ?_ (fun _ => ?_))
   | exact ih0 _ _ _ _
   | exact ih1 _ _ _ _ _ _ _ _
   | exact LeO.none _
   | refine LeO.ite ?_ ?_
   | refine LeO.bind ?_ (fun _ => ?_)
theorem spec_cuSorted.mono : ∀ a0 k, LeO (spec_cuSorted.f k a0) (spec_cuSorted.f (k + 1) a0) := by
 intro a0 k
 obtain ⟨ih0, ih1⟩ := spec_cuSorted.mono_l k
 unfold spec_cuSorted.f
 repeat' first
   | (with_reducible exact ih0 _ _ _ _)
   | (with_reducible exact ih1 _ _ _ _ _ _ _ _)
   | (with_reducible exact LeO.refl _)
   | (with_reducible exact LeO.none _)
   | (with_reducible refine LeO.ite ?_ ?_)
   | (with_reducible refine LeO.bind ?_ (fun _ => ?_))
   | exact ih0 _ _ _ _
   | exact ih1 _ _ _ _ _ _ _ _
   | exact LeO.none _
   | refine LeO.ite ?_ ?_
   | refine LeO.bind ?_ (fun _ => ?_)
def spec_cuSorted.T6 : Bool × List (List Nat × List Nat) := (true, [([], []), ([0], [0]), ([1], [1]), ([2], [2]), ([2], [2]), ([2], [2]), ([5, 2], [2, 5]), ([4, 6, 2], [2, 4, 6]), ([7, 2], [2, 7]), ([3, 8, 2, 2], [2, 3, 8]), ([2, 9], [2, 9])])
def spec_cuSorted.B6 : List Nat := [0, 1, 3, 7, 7, 7, 39, 119, 247, 511, 1023]
theorem spec_cuSorted.tab6 : rtab .any (opsOf Try.f119 6) = spec_cuSorted.T6 := by kernel_rfl
theorem spec_cuSorted.bits6 : waitsOk spec_cuSorted.T6.2 spec_cuSorted.B6 = true := by kernel_rfl
def spec_cuSorted.T8 : Bool × List (List Nat × List Nat) := (true, [([], []), ([], []), ([], []), ([1, 2], [1, 2]), ([0, 3], [0, 3]), ([], []), ([5], [5]), ([4, 6, 4], [4, 6]), ([7, 7, 0, 1, 2, 3, 4, 5, 6, 7], [7])])
def spec_cuSorted.B8 : List Nat := [0, 0, 0, 6, 15, 0, 32, 127, 255]
theorem spec_cuSorted.tab8 : rtab .any (opsOf Try.f119 8) = spec_cuSorted.T8 := by kernel_rfl
theorem spec_cuSorted.bits8 : waitsOk spec_cuSorted.T8.2 spec_cuSorted.B8 = true := by kernel_rfl
set_option maxHeartbeats 8000000 in
set_option maxRecDepth 100000 in
theorem spec_cuSorted.calls (k : Nat) (A0 : Option Addr) (c0 : Nat) (l0 : List (S87)) (r : List (S87)) (w : World) (hr0 : Kd.C k87 w A0 l0.length l0) (hc0 : l0.length ≤ c0) (h : spec_cuSorted.f k l0 = some r) :
  Calls Try.prog 119 #[.slice A0 l0.length c0] w fun e w' => ∃ v0_ : Value, e = .returned (v0_) ∧ Kd.R k87 87 w' w.heap.size (fun _ => True) v0_ r ∧ Below w.heap.size w w' := by
 have hu87 := Try.underlying87
 have HR0 := As_ hr0
 have HC0 := As_ hc0
 clear hr0 hc0
 have HB := As_ (Below.refl w.heap.size w)
 have H : (spec_cuSorted.l0 k ([] : List (S87)) l0 (l0.length : Int) 0) = some r := h
 clear h
 have H' := As_ H
 clear H
 go_enter Try.func119, Try.ntmps119
 go_wp2
 go_loopg [3, 10] k (fun kq v3 v10 w' => ∃ (x3_1 : List (S87)) (x10_1 : Int), v10 = .int .i64 x10_1 ∧ Aside0 (spec_cuSorted.l0 kq x3_1 l0 (l0.length : Int) x10_1 = some r) ∧ Aside0 (kq ≤ k) ∧ Aside0 (Kd.R k87 87 w' w.heap.size (fun _ => True) v3 x3_1) ∧ Aside0 (Below w.heap.size w w'))
 case atStart => exact ⟨(([] : List (S87))), (0), (by first | rfl | (simp; done) | (simp [*]; done)), H', ⟨Nat.le_refl _⟩, ⟨by first | exact Kd.R_nil _ _ _ _ _ | exact Kd.N_nil _ _ _ _ _ | exact Kd.V_nil _ _ _ _ _ | exact Kd.Q_nil _ _ _ _ _ | exact Kd.S_nil _ _ _ _ _⟩, ⟨by repeat (first | (with_reducible first | exact HB.out | apply ba_ | apply bn_ | apply bd_) | exact HB.out)⟩⟩
 case round =>
  clear H'
  try clear c1
  obtain ⟨x3_1, x10_1, rfl, HA, HK1, HO_3, HB⟩ := hrel
  rcases gk with _ | k1
  · exact absurd HA.out (by simp [spec_cuSorted.l0])
  have H := HA.out
  clear HA
  simp only [spec_cuSorted.l0] at H
  by_cases c2 : x10_1 < (l0.length : Int)
  ·
   rw [if_pos c2] at H
   have c2b0 : decide (x10_1 < (l0.length : Int)) = true := decide_eq_true c2
   clear c2
   by_cases c3 : 0 ≤ x10_1
   case neg => rw [if_neg c3] at H; exact absurd H (by simp)
   rw [if_pos c3] at H
   have c3b0 : decide (0 ≤ x10_1) = true := decide_eq_true c3
   clear c3
   by_cases c4 : x10_1 < (l0.length : Int)
   case neg => rw [if_neg c4] at H; exact absurd H (by simp)
   rw [if_pos c4] at H
   have c4b0 : decide (x10_1 < (l0.length : Int)) = true := decide_eq_true c4
   clear c4
   have H' := As_ H
   clear H
   have p171 : 0 ≤ (x10_1 : Int) := of_decide_eq_true (by first | (with_reducible assumption) | assumption)
   have q171 : x10_1 < (l0.length : Int) := of_decide_eq_true (by first | (with_reducible assumption) | assumption)
   obtain ⟨ad171, e171, hx171_0, hx171_1, hx171_2⟩ := at_T87 HR0.out x10_1 p171 q171
   cases e171
   replace hx171_0 := pw_cell_below HB.out hx171_0
   replace hx171_1 := pw_cell_below HB.out hx171_1
   replace hx171_2 := pw_cell_below HB.out hx171_2
   replace p171 := eq_true p171
   replace q171 := eq_true q171
   go_wp2_with (first | ((with_reducible refine gate_dst (N := 5) rfl ?_); refine box_event rfl (N := 5) rfl (cs := #[.int .i64 0, .int .i64 0, .int .i64 0]) (t := 87) ?hr ?_; (case hr => first | (go_simp; done) | (go_simp; rfl)); intro gb172 hg w5 hbox hb; have BK172 := As_ (hbox); have hW_ := bel_ w hb (by repeat (first | (with_reducible first | exact HB.out | apply ba_ | apply bn_ | apply bd_) | exact HB.out)); have GE172 := As_ (gesz hg hW_); replace HO_3 := As_ (Kd.R_below (Kd.R_elderB (by (with_reducible repeat (first | apply Kd.R_alloc | apply Kd.R_drewN | apply Kd.R_drew)); exact HO_3.out) gb172 (Nat.le_of_eq hg.symm)) hb); replace HB := As_ (below_step hW_ hb); clear hW_ hb hbox hg; obtain ⟨hcz6_0, hcz6_1, hcz6_2⟩ := c3_ (w := w5) BK172.out; obtain ⟨hfz6_0, hfz6_1, hfz6_2⟩ := z3_ BK172.out; obtain ⟨Ao7, co7, eo7⟩ := Kd.R_slice HO_3.out; subst eo7))
   go_loopg [6] k1 (fun kq v6 w' => ∃ (x6_2 : Int), v6 = .int .i64 x6_2 ∧ Aside0 (spec_cuSorted.l1 kq x3_1 x6_2 l0 (l0.length : Int) x10_1 ((rd_T87 l0 x10_1).f0) ((rd_T87 l0 x10_1).f1) ((rd_T87 l0 x10_1).f2) = some r) ∧ Aside0 (kq ≤ k1) ∧ Aside0 (Kd.R k87 87 w' w.heap.size (fun k_ => k_ ≠ gb172) (.slice Ao7 x3_1.length co7) x3_1) ∧ Aside0 (w'.heap[gb172]? = some (.cells #[.int .i64 ((rd_T87 l0 x10_1).f0), .int .i64 ((rd_T87 l0 x10_1).f1), .int .i64 ((rd_T87 l0 x10_1).f2)] 87 (0, 0))) ∧ Aside0 (Below w.heap.size w w'))
   case atStart => exact ⟨((x3_1.length : Int)), (by first | rfl | (simp; done) | (simp [*]; done)), H', ⟨Nat.le_refl _⟩, ⟨by (with_reducible repeat (first | apply Kd.R_alloc | apply Kd.R_drewN | apply Kd.R_drew)); exact Kd.R_mono (Kd.R_far (p := ⟨gb172, 2, none⟩) (Kd.R_far (p := ⟨gb172, 1, none⟩) (Kd.R_far (p := ⟨gb172, 0, none⟩) (Kd.R_mono HO_3.out (fun k_ hk => (⟨hk, hk.2⟩ : _ ∧ k_ ≠ gb172))) (fun _ hk => hk.2) (.int .i64 ((rd_T87 l0 x10_1).f0))) (fun _ hk => hk.2) (.int .i64 ((rd_T87 l0 x10_1).f1))) (fun _ hk => hk.2) (.int .i64 ((rd_T87 l0 x10_1).f2))) (fun _ hk => hk.1.2)⟩, ⟨by (with_reducible repeat (first | refine kn_ ?_ _ | refine kd_ ?_ | refine ka_ ?_ _)); refine blk_put (cs := #[.int .i64 ((rd_T87 l0 x10_1).f0), .int .i64 ((rd_T87 l0 x10_1).f1), .int .i64 0]) ?_ 2 _ rfl; refine blk_put (cs := #[.int .i64 ((rd_T87 l0 x10_1).f0), .int .i64 0, .int .i64 0]) ?_ 1 _ rfl; refine blk_put (cs := #[.int .i64 0, .int .i64 0, .int .i64 0]) ?_ 0 _ rfl; (with_reducible repeat (first | refine kn_ ?_ _ | refine kd_ ?_ | refine ka_ ?_ _)); exact BK172.out⟩, ⟨by repeat (first | (with_reducible first | exact HB.out | apply ba_ | apply bn_ | apply bd_ | refine bs_ ?_ GE172.out) | exact HB.out)⟩⟩
   case round =>
    clear H'
    try clear c1; try clear p1
    try clear q1
    try clear hx1; try clear c2; try clear c2b0; try clear p2; try clear c3; try clear c3b0; try clear c4; try clear c4b0; try clear hcz6_0 hcz6_1 hcz6_2; try clear hfz6_0 hfz6_1 hfz6_2; try clear hx171_0; try clear hx171_1; try clear hx171_2; try clear p171
    try clear q171
    obtain ⟨x6_2, rfl, HA, HK2, HO_3, BK172, HB⟩ := hrel
    rcases gk with _ | k2
    · exact absurd HA.out (by simp [spec_cuSorted.l1])
    have H := HA.out
    clear HA
    simp only [spec_cuSorted.l1] at H
    by_cases c8 : x6_2 > 0
    ·
     rw [if_pos c8] at H
     have c8b0 : decide (0 < x6_2) = true := decide_eq_true c8
     clear c8
     obtain ⟨ji9, hji9⟩ : ∃ j_ : Int, (wrap64 (x6_2 - 1)) = j_ := ⟨_, rfl⟩
     replace H : (if 0 ≤ (ji9) then (if (ji9) < (x3_1.length : Int) then ((spec_cuLess.f ((rd_T87 l0 x10_1).f0) ((rd_T87 l0 x10_1).f1) ((rd_T87 l0 x10_1).f2) ((rd_T87 x3_1 (ji9)).f0) ((rd_T87 x3_1 (ji9)).f1) ((rd_T87 x3_1 (ji9)).f2)).bind fun t174 => (if t174 = true then (spec_cuSorted.l1 k2 x3_1 ji9 l0 (l0.length : Int) x10_1 ((rd_T87 l0 x10_1).f0) ((rd_T87 l0 x10_1).f1) ((rd_T87 l0 x10_1).f2)) else ((some (([] : List (S87)) : List (S87))).bind fun y175 => (if 0 ≤ x6_2 then (if x6_2 ≤ (x3_1.length : Int) then ((some (x3_1.take (x6_2 : Int).toNat : List (S87))).bind fun y178 => (if y175.length + y178.length < 5864062014805 then ((some (y175 ++ y178 : List (S87))).bind fun y182 => ((some (([(⟨((rd_T87 l0 x10_1).f0), ((rd_T87 l0 x10_1).f1), ((rd_T87 l0 x10_1).f2)⟩ : S87)] : List (S87)) : List (S87))).bind fun y185 => (if y182.length + y185.length < 5864062014805 then ((some (y182 ++ y185 : List (S87))).bind fun y188 => ((some (x3_1.drop (x6_2 : Int).toNat : List (S87))).bind fun y191 => (if y188.length + y191.length < 5864062014805 then (spec_cuSorted.l0 k2 (y188 ++ y191) l0 (l0.length : Int) (wrap64 (x10_1 + 1))) else (none)))) else (none)))) else (none))) else (none)) else (none))))) else (none)) else (none)) = some r := by first | (rw [hji9] at H; exact H) | (simp only [hji9] at H ⊢; exact H)
     have hji9w : (IntKind.i64.wrap (x6_2 - 1)) = ji9 := (i64_w _).trans hji9
     by_cases c10 : 0 ≤ (ji9)
     case neg => rw [if_neg c10] at H; exact absurd H (by simp)
     rw [if_pos c10] at H
     have c10b0 : decide (0 ≤ (ji9)) = true := decide_eq_true c10
     clear c10
     by_cases c11 : (ji9) < (x3_1.length : Int)
     case neg => rw [if_neg c11] at H; exact absurd H (by simp)
     rw [if_pos c11] at H
     have c11b0 : decide ((ji9) < (x3_1.length : Int)) = true := decide_eq_true c11
     clear c11
     replace H := Option.bind_eq_some_iff.mp H
     obtain ⟨t174, A120, H⟩ := H
     try dsimp only at H
     have A12 := As_ A120
     clear A120
     by_cases c13 : t174 = true
     ·
      subst c13
      have H1 : (spec_cuSorted.l1 k2 x3_1 ji9 l0 (l0.length : Int) x10_1 ((rd_T87 l0 x10_1).f0) ((rd_T87 l0 x10_1).f1) ((rd_T87 l0 x10_1).f2)) = some r := by rw [if_pos rfl] at H; exact H
      clear H
      have H := H1
      clear H1
      have H' := As_ H
      clear H
      try go_wp2
      replace HO_3 := As_ (Kd.R_drew HO_3.out)
      replace BK172 := As_ (blk_drew BK172.out)
      replace HB := As_ (below_drew1 HB.out)
      have p173 : 0 ≤ ((ji9) : Int) := of_decide_eq_true (by first | (with_reducible assumption) | assumption)
      have q173 : (ji9) < (x3_1.length : Int) := of_decide_eq_true (by first | (with_reducible assumption) | assumption)
      obtain ⟨ad173, e173, hx173_0, hx173_1, hx173_2⟩ := at_T87 (Kd.R_reads' HO_3.out).2.2 (ji9) p173 q173
      cases e173
      replace p173 := eq_true p173
      replace q173 := eq_true q173
      refine start_ (n := 11) (S := fun w' => w'.cell? ⟨gb172, 0, none⟩ = some (.int .i64 ((rd_T87 l0 x10_1).f0)) ∧ w'.cell? ⟨gb172, 1, none⟩ = some (.int .i64 ((rd_T87 l0 x10_1).f1)) ∧ w'.cell? ⟨gb172, 2, none⟩ = some (.int .i64 ((rd_T87 l0 x10_1).f2)) ∧ w'.cell? (ad173.add (((ji9)).toNat * 3)) = some (.int .i64 ((rd_T87 x3_1 (ji9)).f0)) ∧ w'.cell? ⟨(ad173.add (((ji9)).toNat * 3)).block, (ad173.add (((ji9)).toNat * 3)).off + 1, none⟩ = some (.int .i64 ((rd_T87 x3_1 (ji9)).f1)) ∧ w'.cell? ⟨(ad173.add (((ji9)).toNat * 3)).block, (ad173.add (((ji9)).toNat * 3)).off + 2, none⟩ = some (.int .i64 ((rd_T87 x3_1 (ji9)).f2))) (ds := []) #[false, false, false, false, false, false, false, false, false, false, false] (by kernel_rfl) rfl rfl ⟨(blk_cell BK172.out 0).trans rfl, (blk_cell BK172.out 1).trans rfl, (blk_cell BK172.out 2).trans rfl, hx173_0, hx173_1, hx173_2⟩ (fun hHeld => ?_); refine with_tabW spec_cuSorted.tab6 spec_cuSorted.bits6 (fun HT_ HW_ => ?_)
      generalize wr.drew = w14 at HO_3 BK172 HB hx173_0 hx173_1 hx173_2 hHeld ⊢
      refine pu_ (v := ?_) (a' := ?_) 0 (some 16) #[true, false, false, false, false, false, false, false, false, false, false] rfl rfl (any_of HT_.out (by kernel_rfl)) (fun _ _ _ h => h) (.inl ⟨by rfl, ?_⟩) ?_ ?_; rotate_left
      · intro w'; go_simp; with_reducible rfl
      rotate_left
      · simp only [Act.put, sib_, sc0_, sc1_, i64_w, i32_w]; rfl
      refine pu_ (v := ?_) (a' := ?_) 1 (some 17) #[true, true, false, false, false, false, false, false, false, false, false] rfl rfl (any_of HT_.out (by kernel_rfl)) (fun _ _ _ h => h) (.inl ⟨by rfl, ?_⟩) ?_ ?_; rotate_left
      · intro w'; go_simp; with_reducible rfl
      rotate_left
      · simp only [Act.put, sib_, sc0_, sc1_, i64_w, i32_w]; rfl
      refine pu_ (v := ?_) (a' := ?_) 2 (some 18) #[true, true, true, false, false, false, false, false, false, false, false] rfl rfl (any_of HT_.out (by kernel_rfl)) (fun _ _ _ h => h) (.inl ⟨by rfl, ?_⟩) ?_ ?_; rotate_left
      · intro w'; go_simp; with_reducible rfl
      rotate_left
      · simp only [Act.put, sib_, sc0_, sc1_, i64_w, i32_w]; rfl
      refine pu_ (v := ?_) (a' := ?_) 4 (some 20) #[true, true, true, false, true, false, false, false, false, false, false] rfl rfl (any_of HT_.out (by kernel_rfl)) (fun _ _ _ h => h) (.inl ⟨by rfl, ?_⟩) ?_ ?_; rotate_left
      · intro w'; go_simp; with_reducible rfl
      rotate_left
      · simp only [Act.put, sib_, sc0_, sc1_, i64_w, i32_w]; rfl
      refine pu_ (v := ?_) (a' := ?_) 5 (some 21) #[true, true, true, false, true, true, false, false, false, false, false] rfl rfl (any_of HT_.out (by kernel_rfl)) (fun _ _ _ h => h) (.inl ⟨by rfl, ?_⟩) ?_ ?_; rotate_left
      · intro w'; go_simp; with_reducible rfl
      rotate_left
      · simp only [Act.put, sib_, sc0_, sc1_, i64_w, i32_w]; rfl
      refine pu_ (v := ?_) (a' := ?_) 6 (some 22) #[true, true, true, false, true, true, true, false, false, false, false] rfl rfl (any_of HT_.out (by kernel_rfl)) (fun _ _ _ h => h) (.inl ⟨by rfl, ?_⟩) ?_ ?_; rotate_left
      · intro w'; go_simp; with_reducible rfl
      rotate_left
      · simp only [Act.put, sib_, sc0_, sc1_, i64_w, i32_w]; rfl
      refine pu_ (v := ?_) (a' := ?_) 7 (some 23) #[true, true, true, false, true, true, true, true, false, false, false] rfl rfl (any_of HT_.out (by kernel_rfl)) (fun _ _ _ h => h) (.inl ⟨by rfl, ?_⟩) ?_ ?_; rotate_left
      · intro w'; go_simp; with_reducible rfl
      rotate_left
      · simp only [Act.put, sib_, sc0_, sc1_, i64_w, i32_w]; rfl
      refine take_ (i := 3) (N := some 19) (v := ?_) (a' := ?_) #[true, true, true, true, true, true, true, true, false, false, false] rfl rfl (take_ofW HT_.out HW_.out (by kernel_rfl)) (fun _ _ _ h => h) (Or.inl ⟨by rfl, ?_⟩) hHeld ?_ ?_; rotate_left
      ·
       rintro w' ⟨s0, s1, s2, s3, s4, s5⟩
       go_simp
       with_reducible rfl
      rotate_left
      · simp only [Act.put, sib_, sc0_, sc1_, i64_w, i32_w]; rfl
      refine take_ (i := 8) (N := some 24) (v := ?_) (a' := ?_) #[true, true, true, true, true, true, true, true, true, false, false] rfl rfl (take_ofW HT_.out HW_.out (by kernel_rfl)) (fun _ _ _ h => h) (Or.inl ⟨by rfl, ?_⟩) hHeld ?_ ?_; rotate_left
      ·
       rintro w' ⟨s0, s1, s2, s3, s4, s5⟩
       go_simp
       with_reducible rfl
      rotate_left
      · simp only [Act.put, sib_, sc0_, sc1_, i64_w, i32_w]; rfl
      refine one_ (i := 9) (N := some 25) #[true, true, true, true, true, true, true, true, true, true, false] rfl rfl (one_of HT_.out (by kernel_rfl)) (by decide) (fun K hK => ?_)
      refine goes_ Try.func81 (by kernel_rfl) rfl #[.agg #[.int .i64 ((rd_T87 l0 x10_1).f0), .int .i64 ((rd_T87 l0 x10_1).f1), .int .i64 ((rd_T87 l0 x10_1).f2)], .agg #[.int .i64 ((rd_T87 x3_1 (ji9)).f0), .int .i64 ((rd_T87 x3_1 (ji9)).f1), .int .i64 ((rd_T87 x3_1 (ji9)).f2)]] (by rfl) rfl rfl (by (try simp only [List.map_toArray, List.map_cons, List.map_nil]); first | done | (simp only [hji9]; rfl) | rfl | (simp only [List.length_drop, List.length_take]; rfl)) ?_
      with_reducible refine (spec_cuLess.calls ((rd_T87 l0 x10_1).f0) ((rd_T87 l0 x10_1).f1) ((rd_T87 l0 x10_1).f2) ((rd_T87 x3_1 (ji9)).f0) ((rd_T87 x3_1 (ji9)).f1) ((rd_T87 x3_1 (ji9)).f2) true _ A12.out).mono ?_
      rintro e w15 ⟨rfl, hb⟩
      have HS3_ := (hb.cell (World.block_lt_of_cell? _ _ (hHeld.2.2.2.1))).trans (hHeld.2.2.2.1)
      have HS4_ := (hb.cell (World.block_lt_of_cell? _ _ (hHeld.2.2.2.2.1))).trans (hHeld.2.2.2.2.1)
      have HS5_ := (hb.cell (World.block_lt_of_cell? _ _ (hHeld.2.2.2.2.2))).trans (hHeld.2.2.2.2.2)
      refine ⟨_, rfl, ?_⟩
      replace HO_3 := As_ (Kd.R_below (by (with_reducible repeat (first | apply Kd.R_alloc | apply Kd.R_drewN | apply Kd.R_drew)); exact HO_3.out) hb)
      replace BK172 := As_ (blk_b hb BK172.out)
      replace HB := As_ (below_step (by repeat (first | (with_reducible first | exact HB.out | apply ba_ | apply bn_ | apply bd_ | refine bs_ ?_ GE172.out) | exact HB.out)) hb)
      (try clear hb)
      (try clear hb2)
      (try clear hk)
      (try clear hi)
      refine hK.out _ _ ⟨(blk_cell BK172.out 0).trans rfl, (blk_cell BK172.out 1).trans rfl, (blk_cell BK172.out 2).trans rfl, HS3_, HS4_, HS5_⟩ (fun hHeld => ?_); clear hK K
      refine norm_ (a' := ?_) ?_ ?_; rotate_left
      ·
       show Act.put _ (some 25) _ = _
       simp only [Act.put, sib_, sc0_, sc1_, i64_w, i32_w]
       rfl
      refine pu_ (v := ?_) (a' := ?_) 10 (some 26) #[true, true, true, true, true, true, true, true, true, true, true] rfl rfl (any_of HT_.out (by kernel_rfl)) (fun _ _ _ h => h) (.inl ⟨by rfl, ?_⟩) ?_ ?_; rotate_left
      · intro w'; go_simp; with_reducible rfl
      rotate_left
      · simp only [Act.put, sib_, sc0_, sc1_, i64_w, i32_w]; rfl
      refine done_ (done_of HT_.out (by kernel_rfl)) ?_
      try go_wp2
      go_roundg k2
      case measure => have := HK1.out; have := HK2.out; omega
      case rel => exact ⟨(ji9), (by first | rfl | (simp; done) | (simp only [← hji9] <;> (first | rfl | simp)) | (simp [*]; done)), H', ⟨by have := HK1.out; have := HK2.out; omega⟩, ⟨by (with_reducible repeat (first | apply Kd.R_alloc | apply Kd.R_drewN | apply Kd.R_drew)); exact HO_3.out⟩, ⟨by (with_reducible repeat (first | refine kn_ ?_ _ | refine kd_ ?_ | refine ka_ ?_ _)); exact BK172.out⟩, ⟨by repeat (first | (with_reducible first | exact HB.out | apply ba_ | apply bn_ | apply bd_ | refine bs_ ?_ GE172.out) | exact HB.out)⟩⟩
     ·
      replace c13 := Bool.eq_false_iff.mpr c13
      subst c13
      have H1 : ((some (([] : List (S87)) : List (S87))).bind fun y175 => (if 0 ≤ x6_2 then (if x6_2 ≤ (x3_1.length : Int) then ((some (x3_1.take (x6_2 : Int).toNat : List (S87))).bind fun y178 => (if y175.length + y178.length < 5864062014805 then ((some (y175 ++ y178 : List (S87))).bind fun y182 => ((some (([(⟨((rd_T87 l0 x10_1).f0), ((rd_T87 l0 x10_1).f1), ((rd_T87 l0 x10_1).f2)⟩ : S87)] : List (S87)) : List (S87))).bind fun y185 => (if y182.length + y185.length < 5864062014805 then ((some (y182 ++ y185 : List (S87))).bind fun y188 => ((some (x3_1.drop (x6_2 : Int).toNat : List (S87))).bind fun y191 => (if y188.length + y191.length < 5864062014805 then (spec_cuSorted.l0 k2 (y188 ++ y191) l0 (l0.length : Int) (wrap64 (x10_1 + 1))) else (none)))) else (none)))) else (none))) else (none)) else (none))) = some r := by rw [if_neg (show ¬ (false = true) by decide)] at H; exact H
      clear H
      have H := H1
      clear H1
      obtain ⟨y175, hy175⟩ : ∃ y_ : List (S87), y_ = (([] : List (S87))) := ⟨_, rfl⟩
      replace H : (if 0 ≤ x6_2 then (if x6_2 ≤ (x3_1.length : Int) then ((some (x3_1.take (x6_2 : Int).toNat : List (S87))).bind fun y178 => (if y175.length + y178.length < 5864062014805 then ((some (y175 ++ y178 : List (S87))).bind fun y182 => ((some (([(⟨((rd_T87 l0 x10_1).f0), ((rd_T87 l0 x10_1).f1), ((rd_T87 l0 x10_1).f2)⟩ : S87)] : List (S87)) : List (S87))).bind fun y185 => (if y182.length + y185.length < 5864062014805 then ((some (y182 ++ y185 : List (S87))).bind fun y188 => ((some (x3_1.drop (x6_2 : Int).toNat : List (S87))).bind fun y191 => (if y188.length + y191.length < 5864062014805 then (spec_cuSorted.l0 k2 (y188 ++ y191) l0 (l0.length : Int) (wrap64 (x10_1 + 1))) else (none)))) else (none)))) else (none))) else (none)) else (none)) = some r := by first | (rw [hy175]; with_reducible exact H) | (have H2_ := (Option.bind_some _ _).symm.trans H; rw [hy175]; with_reducible exact H2_) | (have H2_ := (Option.bind_some _ _).symm.trans H; with_reducible exact H2_) | with_reducible exact H | (rw [hy175]; exact H) | exact H
      have Ny175 := As_ hy175
      clear hy175
      by_cases c16 : 0 ≤ x6_2
      case neg => rw [if_neg c16] at H; exact absurd H (by simp)
      rw [if_pos c16] at H
      have c16b0 := eq_true c16
      have c16b1 : decide (0 ≤ x6_2) = true := decide_eq_true c16
      clear c16
      by_cases c17 : x6_2 ≤ (x3_1.length : Int)
      case neg => rw [if_neg c17] at H; exact absurd H (by simp)
      rw [if_pos c17] at H
      have c17b0 := eq_true c17
      have c17b1 : decide (x6_2 ≤ (x3_1.length : Int)) = true := decide_eq_true c17
      clear c17
      obtain ⟨y178, hy178⟩ : ∃ y_ : List (S87), y_ = (x3_1.take (x6_2 : Int).toNat) := ⟨_, rfl⟩
      replace H : (if y175.length + y178.length < 5864062014805 then ((some (y175 ++ y178 : List (S87))).bind fun y182 => ((some (([(⟨((rd_T87 l0 x10_1).f0), ((rd_T87 l0 x10_1).f1), ((rd_T87 l0 x10_1).f2)⟩ : S87)] : List (S87)) : List (S87))).bind fun y185 => (if y182.length + y185.length < 5864062014805 then ((some (y182 ++ y185 : List (S87))).bind fun y188 => ((some (x3_1.drop (x6_2 : Int).toNat : List (S87))).bind fun y191 => (if y188.length + y191.length < 5864062014805 then (spec_cuSorted.l0 k2 (y188 ++ y191) l0 (l0.length : Int) (wrap64 (x10_1 + 1))) else (none)))) else (none)))) else (none)) = some r := by first | (rw [hy178]; with_reducible exact H) | (have H2_ := (Option.bind_some _ _).symm.trans H; rw [hy178]; with_reducible exact H2_) | (have H2_ := (Option.bind_some _ _).symm.trans H; with_reducible exact H2_) | with_reducible exact H | (rw [hy178]; exact H) | exact H
      have Ny178 := As_ hy178
      clear hy178
      by_cases c18 : y175.length + y178.length < 5864062014805
      case neg => rw [if_neg c18] at H; exact absurd H (by simp)
      rw [if_pos c18] at H
      have LMc18 := As_ c18
      clear c18
      obtain ⟨y182, hy182⟩ : ∃ y_ : List (S87), y_ = (y175 ++ y178) := ⟨_, rfl⟩
      replace H : ((some (([(⟨((rd_T87 l0 x10_1).f0), ((rd_T87 l0 x10_1).f1), ((rd_T87 l0 x10_1).f2)⟩ : S87)] : List (S87)) : List (S87))).bind fun y185 => (if y182.length + y185.length < 5864062014805 then ((some (y182 ++ y185 : List (S87))).bind fun y188 => ((some (x3_1.drop (x6_2 : Int).toNat : List (S87))).bind fun y191 => (if y188.length + y191.length < 5864062014805 then (spec_cuSorted.l0 k2 (y188 ++ y191) l0 (l0.length : Int) (wrap64 (x10_1 + 1))) else (none)))) else (none))) = some r := by first | (rw [hy182]; with_reducible exact H) | (have H2_ := (Option.bind_some _ _).symm.trans H; rw [hy182]; with_reducible exact H2_) | (have H2_ := (Option.bind_some _ _).symm.trans H; with_reducible exact H2_) | with_reducible exact H | (rw [hy182]; exact H) | exact H
      have Ny182 := As_ hy182
      clear hy182
      obtain ⟨y185, hy185⟩ : ∃ y_ : List (S87), y_ = (([(⟨((rd_T87 l0 x10_1).f0), ((rd_T87 l0 x10_1).f1), ((rd_T87 l0 x10_1).f2)⟩ : S87)] : List (S87))) := ⟨_, rfl⟩
      replace H : (if y182.length + y185.length < 5864062014805 then ((some (y182 ++ y185 : List (S87))).bind fun y188 => ((some (x3_1.drop (x6_2 : Int).toNat : List (S87))).bind fun y191 => (if y188.length + y191.length < 5864062014805 then (spec_cuSorted.l0 k2 (y188 ++ y191) l0 (l0.length : Int) (wrap64 (x10_1 + 1))) else (none)))) else (none)) = some r := by first | (rw [hy185]; with_reducible exact H) | (have H2_ := (Option.bind_some _ _).symm.trans H; rw [hy185]; with_reducible exact H2_) | (have H2_ := (Option.bind_some _ _).symm.trans H; with_reducible exact H2_) | with_reducible exact H | (rw [hy185]; exact H) | exact H
      have Ny185 := As_ hy185
      clear hy185
      by_cases c19 : y182.length + y185.length < 5864062014805
      case neg => rw [if_neg c19] at H; exact absurd H (by simp)
      rw [if_pos c19] at H
      have LMc19 := As_ c19
      clear c19
      obtain ⟨y188, hy188⟩ : ∃ y_ : List (S87), y_ = (y182 ++ y185) := ⟨_, rfl⟩
      replace H : ((some (x3_1.drop (x6_2 : Int).toNat : List (S87))).bind fun y191 => (if y188.length + y191.length < 5864062014805 then (spec_cuSorted.l0 k2 (y188 ++ y191) l0 (l0.length : Int) (wrap64 (x10_1 + 1))) else (none))) = some r := by first | (rw [hy188]; with_reducible exact H) | (have H2_ := (Option.bind_some _ _).symm.trans H; rw [hy188]; with_reducible exact H2_) | (have H2_ := (Option.bind_some _ _).symm.trans H; with_reducible exact H2_) | with_reducible exact H | (rw [hy188]; exact H) | exact H
      have Ny188 := As_ hy188
      clear hy188
      have c20b0 := eq_true (of_decide_eq_true (by first | (with_reducible assumption) | assumption) : 0 ≤ x6_2)
      have c21b0 := eq_true (of_decide_eq_true (by first | (with_reducible assumption) | assumption) : x6_2 ≤ (x3_1.length : Int))
      obtain ⟨y191, hy191⟩ : ∃ y_ : List (S87), y_ = (x3_1.drop (x6_2 : Int).toNat) := ⟨_, rfl⟩
      replace H : (if y188.length + y191.length < 5864062014805 then (spec_cuSorted.l0 k2 (y188 ++ y191) l0 (l0.length : Int) (wrap64 (x10_1 + 1))) else (none)) = some r := by first | (rw [hy191]; with_reducible exact H) | (have H2_ := (Option.bind_some _ _).symm.trans H; rw [hy191]; with_reducible exact H2_) | (have H2_ := (Option.bind_some _ _).symm.trans H; with_reducible exact H2_) | with_reducible exact H | (rw [hy191]; exact H) | exact H
      have Ny191 := As_ hy191
      clear hy191
      by_cases c22 : y188.length + y191.length < 5864062014805
      case neg => rw [if_neg c22] at H; exact absurd H (by simp)
      rw [if_pos c22] at H
      have LMc22 := As_ c22
      clear c22
      obtain ⟨y195, hy195⟩ : ∃ y_ : List (S87), y_ = (y188 ++ y191) := ⟨_, rfl⟩
      replace H : (spec_cuSorted.l0 k2 y195 l0 (l0.length : Int) (wrap64 (x10_1 + 1))) = some r := by first | (rw [hy195]; with_reducible exact H) | (have H2_ := (Option.bind_some _ _).symm.trans H; rw [hy195]; with_reducible exact H2_) | (have H2_ := (Option.bind_some _ _).symm.trans H; with_reducible exact H2_) | with_reducible exact H | (rw [hy195]; exact H) | exact H
      have Ny195 := As_ hy195
      clear hy195
      have H' := As_ H
      clear H
      try go_wp2
      replace HO_3 := As_ (Kd.R_drew HO_3.out)
      replace BK172 := As_ (blk_drew BK172.out)
      replace HB := As_ (below_drew1 HB.out)
      have p173 : 0 ≤ ((ji9) : Int) := of_decide_eq_true (by first | (with_reducible assumption) | assumption)
      have q173 : (ji9) < (x3_1.length : Int) := of_decide_eq_true (by first | (with_reducible assumption) | assumption)
      obtain ⟨ad173, e173, hx173_0, hx173_1, hx173_2⟩ := at_T87 (Kd.R_reads' HO_3.out).2.2 (ji9) p173 q173
      cases e173
      replace p173 := eq_true p173
      replace q173 := eq_true q173
      refine start_ (n := 11) (S := fun w' => w'.cell? ⟨gb172, 0, none⟩ = some (.int .i64 ((rd_T87 l0 x10_1).f0)) ∧ w'.cell? ⟨gb172, 1, none⟩ = some (.int .i64 ((rd_T87 l0 x10_1).f1)) ∧ w'.cell? ⟨gb172, 2, none⟩ = some (.int .i64 ((rd_T87 l0 x10_1).f2)) ∧ w'.cell? (ad173.add (((ji9)).toNat * 3)) = some (.int .i64 ((rd_T87 x3_1 (ji9)).f0)) ∧ w'.cell? ⟨(ad173.add (((ji9)).toNat * 3)).block, (ad173.add (((ji9)).toNat * 3)).off + 1, none⟩ = some (.int .i64 ((rd_T87 x3_1 (ji9)).f1)) ∧ w'.cell? ⟨(ad173.add (((ji9)).toNat * 3)).block, (ad173.add (((ji9)).toNat * 3)).off + 2, none⟩ = some (.int .i64 ((rd_T87 x3_1 (ji9)).f2))) (ds := []) #[false, false, false, false, false, false, false, false, false, false, false] (by kernel_rfl) rfl rfl ⟨(blk_cell BK172.out 0).trans rfl, (blk_cell BK172.out 1).trans rfl, (blk_cell BK172.out 2).trans rfl, hx173_0, hx173_1, hx173_2⟩ (fun hHeld => ?_); refine with_tabW spec_cuSorted.tab6 spec_cuSorted.bits6 (fun HT_ HW_ => ?_)
      generalize wr.drew = w23 at HO_3 BK172 HB hx173_0 hx173_1 hx173_2 hHeld ⊢
      refine pu_ (v := ?_) (a' := ?_) 0 (some 16) #[true, false, false, false, false, false, false, false, false, false, false] rfl rfl (any_of HT_.out (by kernel_rfl)) (fun _ _ _ h => h) (.inl ⟨by rfl, ?_⟩) ?_ ?_; rotate_left
      · intro w'; go_simp; with_reducible rfl
      rotate_left
      · simp only [Act.put, sib_, sc0_, sc1_, i64_w, i32_w]; rfl
      refine pu_ (v := ?_) (a' := ?_) 1 (some 17) #[true, true, false, false, false, false, false, false, false, false, false] rfl rfl (any_of HT_.out (by kernel_rfl)) (fun _ _ _ h => h) (.inl ⟨by rfl, ?_⟩) ?_ ?_; rotate_left
      · intro w'; go_simp; with_reducible rfl
      rotate_left
      · simp only [Act.put, sib_, sc0_, sc1_, i64_w, i32_w]; rfl
      refine pu_ (v := ?_) (a' := ?_) 2 (some 18) #[true, true, true, false, false, false, false, false, false, false, false] rfl rfl (any_of HT_.out (by kernel_rfl)) (fun _ _ _ h => h) (.inl ⟨by rfl, ?_⟩) ?_ ?_; rotate_left
      · intro w'; go_simp; with_reducible rfl
      rotate_left
      · simp only [Act.put, sib_, sc0_, sc1_, i64_w, i32_w]; rfl
      refine pu_ (v := ?_) (a' := ?_) 4 (some 20) #[true, true, true, false, true, false, false, false, false, false, false] rfl rfl (any_of HT_.out (by kernel_rfl)) (fun _ _ _ h => h) (.inl ⟨by rfl, ?_⟩) ?_ ?_; rotate_left
      · intro w'; go_simp; with_reducible rfl
      rotate_left
      · simp only [Act.put, sib_, sc0_, sc1_, i64_w, i32_w]; rfl
      refine pu_ (v := ?_) (a' := ?_) 5 (some 21) #[true, true, true, false, true, true, false, false, false, false, false] rfl rfl (any_of HT_.out (by kernel_rfl)) (fun _ _ _ h => h) (.inl ⟨by rfl, ?_⟩) ?_ ?_; rotate_left
      · intro w'; go_simp; with_reducible rfl
      rotate_left
      · simp only [Act.put, sib_, sc0_, sc1_, i64_w, i32_w]; rfl
      refine pu_ (v := ?_) (a' := ?_) 6 (some 22) #[true, true, true, false, true, true, true, false, false, false, false] rfl rfl (any_of HT_.out (by kernel_rfl)) (fun _ _ _ h => h) (.inl ⟨by rfl, ?_⟩) ?_ ?_; rotate_left
      · intro w'; go_simp; with_reducible rfl
      rotate_left
      · simp only [Act.put, sib_, sc0_, sc1_, i64_w, i32_w]; rfl
      refine pu_ (v := ?_) (a' := ?_) 7 (some 23) #[true, true, true, false, true, true, true, true, false, false, false] rfl rfl (any_of HT_.out (by kernel_rfl)) (fun _ _ _ h => h) (.inl ⟨by rfl, ?_⟩) ?_ ?_; rotate_left
      · intro w'; go_simp; with_reducible rfl
      rotate_left
      · simp only [Act.put, sib_, sc0_, sc1_, i64_w, i32_w]; rfl
      refine take_ (i := 3) (N := some 19) (v := ?_) (a' := ?_) #[true, true, true, true, true, true, true, true, false, false, false] rfl rfl (take_ofW HT_.out HW_.out (by kernel_rfl)) (fun _ _ _ h => h) (Or.inl ⟨by rfl, ?_⟩) hHeld ?_ ?_; rotate_left
      ·
       rintro w' ⟨s0, s1, s2, s3, s4, s5⟩
       go_simp
       with_reducible rfl
      rotate_left
      · simp only [Act.put, sib_, sc0_, sc1_, i64_w, i32_w]; rfl
      refine take_ (i := 8) (N := some 24) (v := ?_) (a' := ?_) #[true, true, true, true, true, true, true, true, true, false, false] rfl rfl (take_ofW HT_.out HW_.out (by kernel_rfl)) (fun _ _ _ h => h) (Or.inl ⟨by rfl, ?_⟩) hHeld ?_ ?_; rotate_left
      ·
       rintro w' ⟨s0, s1, s2, s3, s4, s5⟩
       go_simp
       with_reducible rfl
      rotate_left
      · simp only [Act.put, sib_, sc0_, sc1_, i64_w, i32_w]; rfl
      refine one_ (i := 9) (N := some 25) #[true, true, true, true, true, true, true, true, true, true, false] rfl rfl (one_of HT_.out (by kernel_rfl)) (by decide) (fun K hK => ?_)
      refine goes_ Try.func81 (by kernel_rfl) rfl #[.agg #[.int .i64 ((rd_T87 l0 x10_1).f0), .int .i64 ((rd_T87 l0 x10_1).f1), .int .i64 ((rd_T87 l0 x10_1).f2)], .agg #[.int .i64 ((rd_T87 x3_1 (ji9)).f0), .int .i64 ((rd_T87 x3_1 (ji9)).f1), .int .i64 ((rd_T87 x3_1 (ji9)).f2)]] (by rfl) rfl rfl (by (try simp only [List.map_toArray, List.map_cons, List.map_nil]); first | done | (simp only [hji9]; rfl) | rfl | (simp only [List.length_drop, List.length_take]; rfl)) ?_
      with_reducible refine (spec_cuLess.calls ((rd_T87 l0 x10_1).f0) ((rd_T87 l0 x10_1).f1) ((rd_T87 l0 x10_1).f2) ((rd_T87 x3_1 (ji9)).f0) ((rd_T87 x3_1 (ji9)).f1) ((rd_T87 x3_1 (ji9)).f2) false _ A12.out).mono ?_
      rintro e w24 ⟨rfl, hb⟩
      have HS3_ := (hb.cell (World.block_lt_of_cell? _ _ (hHeld.2.2.2.1))).trans (hHeld.2.2.2.1)
      have HS4_ := (hb.cell (World.block_lt_of_cell? _ _ (hHeld.2.2.2.2.1))).trans (hHeld.2.2.2.2.1)
      have HS5_ := (hb.cell (World.block_lt_of_cell? _ _ (hHeld.2.2.2.2.2))).trans (hHeld.2.2.2.2.2)
      refine ⟨_, rfl, ?_⟩
      replace HO_3 := As_ (Kd.R_below (by (with_reducible repeat (first | apply Kd.R_alloc | apply Kd.R_drewN | apply Kd.R_drew)); exact HO_3.out) hb)
      replace BK172 := As_ (blk_b hb BK172.out)
      replace HB := As_ (below_step (by repeat (first | (with_reducible first | exact HB.out | apply ba_ | apply bn_ | apply bd_ | refine bs_ ?_ GE172.out) | exact HB.out)) hb)
      (try clear hb)
      (try clear hb2)
      (try clear hk)
      (try clear hi)
      refine hK.out _ _ ⟨(blk_cell BK172.out 0).trans rfl, (blk_cell BK172.out 1).trans rfl, (blk_cell BK172.out 2).trans rfl, HS3_, HS4_, HS5_⟩ (fun hHeld => ?_); clear hK K
      refine norm_ (a' := ?_) ?_ ?_; rotate_left
      ·
       show Act.put _ (some 25) _ = _
       simp only [Act.put, sib_, sc0_, sc1_, i64_w, i32_w]
       rfl
      refine pu_ (v := ?_) (a' := ?_) 10 (some 26) #[true, true, true, true, true, true, true, true, true, true, true] rfl rfl (any_of HT_.out (by kernel_rfl)) (fun _ _ _ h => h) (.inl ⟨by rfl, ?_⟩) ?_ ?_; rotate_left
      · intro w'; go_simp; with_reducible rfl
      rotate_left
      · simp only [Act.put, sib_, sc0_, sc1_, i64_w, i32_w]; rfl
      refine done_ (done_of HT_.out (by kernel_rfl)) ?_
      try go_wp2
      replace HO_3 := As_ (Kd.R_drew HO_3.out)
      replace BK172 := As_ (blk_drew BK172.out)
      replace HB := As_ (below_drew1 HB.out)
      have q26 : (x6_2 : Int) ≤ ((x3_1.length : Int) : Int) := of_decide_eq_true (by first | (with_reducible assumption) | assumption)
      obtain ⟨i026, hi026, _, hsz26, _⟩ := info_parts info87
      have hroom26 : x3_1.length ≤ co7 := (Kd.R_reads' HO_3.out).2.1
      have hC26 : Kd.C k87 _ (some ad173) x3_1.length x3_1 := (Kd.R_reads' HO_3.out).2.2
      have hcut26 := cut_to (P := Try.prog) 29 87 .i64 Try.underlying29 hi026 (some ad173) x3_1.length co7 x6_2 (of_decide_eq_true (by first | (with_reducible assumption) | assumption)) q26 hroom26
      have hr26 := Kd.C_take (m := (x6_2 : Int).toNat) hC26 (by omega)
      have hy26 : y178.length = (x6_2 : Int).toNat := (by rw [Ny178.out, List.length_take]; omega)
      rw [← Ny178.out] at hr26
      rw [← hy26] at hcut26
      have HR181 := As_ hr26
      have HC181 := As_ (show y178.length ≤ co7 from by omega)
      clear hr26 hC26 hroom26 hi026 hsz26
      have KY26 := As_ hy26
      clear hy26
      have KL26 := As_ (show (x6_2 : Int).toNat ≤ x3_1.length from by omega)
      replace q26 := eq_true q26
      refine start_ (n := 9) (S := fun w' => w'.cell? ⟨gb172, 0, none⟩ = some (.int .i64 ((rd_T87 l0 x10_1).f0)) ∧ w'.cell? ⟨gb172, 1, none⟩ = some (.int .i64 ((rd_T87 l0 x10_1).f1)) ∧ w'.cell? ⟨gb172, 2, none⟩ = some (.int .i64 ((rd_T87 l0 x10_1).f2))) (ds := []) #[false, false, false, false, false, false, false, false, false] (by kernel_rfl) rfl rfl ⟨(blk_cell BK172.out 0).trans rfl, (blk_cell BK172.out 1).trans rfl, (blk_cell BK172.out 2).trans rfl⟩ (fun hHeld => ?_); refine with_tabW spec_cuSorted.tab8 spec_cuSorted.bits8 (fun HT_ HW_ => ?_)
      generalize w24.drew = w25 at HO_3 BK172 HB HR181 hHeld ⊢
      refine pu_ (v := ?_) (a' := ?_) 1 (some 30) #[false, true, false, false, false, false, false, false, false] rfl rfl (any_of HT_.out (by kernel_rfl)) (fun _ _ _ h => h) (.inl ⟨by rfl, ?_⟩) ?_ ?_; rotate_left
      · intro w'; go_simp; with_reducible rfl
      rotate_left
      · simp only [Act.put, sib_, sc0_, sc1_, i64_w, i32_w]; rfl
      refine pu_ (v := ?_) (a' := ?_) 2 (some 31) #[false, true, true, false, false, false, false, false, false] rfl rfl (any_of HT_.out (by kernel_rfl)) (fun _ _ _ h => h) (.inl ⟨by rfl, ?_⟩) ?_ ?_; rotate_left
      · intro w'; go_simp; with_reducible rfl
      rotate_left
      · simp only [Act.put, sib_, sc0_, sc1_, i64_w, i32_w]; rfl
      refine pu_ (v := ?_) (a' := ?_) 3 (some 32) #[false, true, true, true, false, false, false, false, false] rfl rfl (any_of HT_.out (by kernel_rfl)) (fun _ _ _ h => h) (.inl ⟨by rfl, ?_⟩) ?_ ?_; rotate_left
      · intro w'; go_simp; with_reducible rfl
      rotate_left
      · simp only [Act.put, sib_, sc0_, sc1_, i64_w, i32_w]; rfl
      refine take_ (i := 5) (N := some 34) (v := ?_) (a' := ?_) #[false, true, true, true, false, true, false, false, false] rfl rfl (take_ofW HT_.out HW_.out (by kernel_rfl)) (fun _ _ _ h => h) (Or.inl ⟨by rfl, ?_⟩) hHeld ?_ ?_; rotate_left
      ·
       rintro w' ⟨s0, s1, s2⟩
       go_simp
       with_reducible rfl
      rotate_left
      · simp only [Act.put, sib_, sc0_, sc1_, i64_w, i32_w]; rfl
      refine join_ (σ := Value × Value × Value) 2 #[true, true, true, true, true, true, true, false, false] (fun s_ => [(29, s_.1), (33, s_.2.1), (35, s_.2.2)]) (fun s_ w' => (w'.cell? ⟨gb172, 0, none⟩ = some (.int .i64 ((rd_T87 l0 x10_1).f0)) ∧ w'.cell? ⟨gb172, 1, none⟩ = some (.int .i64 ((rd_T87 l0 x10_1).f1)) ∧ w'.cell? ⟨gb172, 2, none⟩ = some (.int .i64 ((rd_T87 l0 x10_1).f2))) ∧ (Kd.R k87 87 w' w.heap.size (fun k_ => some k_ ≠ (s_.2.2 : Value).ownBlock ∧ some k_ ≠ (.slice (some ad173) x3_1.length co7 : Value).ownBlock ∧ k_ ≠ gb172) s_.2.1 y182) ∧ (Kd.R k87 87 w' w.heap.size (fun k_ => some k_ ≠ (s_.2.1 : Value).ownBlock ∧ some k_ ≠ (.slice (some ad173) x3_1.length co7 : Value).ownBlock ∧ k_ ≠ gb172) s_.2.2 y185) ∧ (Kd.R k87 87 w' w.heap.size (fun k_ => some k_ ≠ (s_.2.1 : Value).ownBlock ∧ some k_ ≠ (s_.2.2 : Value).ownBlock ∧ k_ ≠ gb172) (.slice (some ad173) x3_1.length co7) x3_1) ∧ (w'.heap[gb172]? = some (.cells #[.int .i64 ((rd_T87 l0 x10_1).f0), .int .i64 ((rd_T87 l0 x10_1).f1), .int .i64 ((rd_T87 l0 x10_1).f2)] 87 (0, 0))) ∧ (Below w.heap.size w w')) ?_ ?_; rotate_left
      ·
       intro hCont
       refine two_ (i := 0) (j := 6) (Ni := some 29) (Nj := some 35) #[true, true, true, true, false, true, false, false, false] #[false, true, true, true, false, true, true, false, false] rfl rfl rfl rfl (two_of HT_.out (by kernel_rfl)) (by decide) (by decide) (fun K hK => ?_) (fun K hK => ?_)
       ·
        refine Kd.R_lit_step k87 _ 87 ?hg (N := 29) ?hd (xs := ([] : List (S87))) (inner := []) (ok := fun _ => True) (okp := fun _ => True) ?hr ?hp (fun _ hk => hk) trivial (Below.refl _ _) (Nat.le_refl _) (by simp) ?_; (case hd => rfl); (case hg => rfl); (case hr => first | (go_simp; done) | (go_simp; rfl)); (case hp => exact (Reps.none _ _))
        intro v176 w27 ho28 hb hg_ hnew_; clear hg_ hnew_
        (first | rw [← Ny175.out] at ho28 | (simp only [Int.reduceToNat] at ho28; rw [← Ny175.out] at ho28))
        have HO177 := As_ (Kd.R_lower (Kd.R_newB (Kd.R_new' ho28 (Kd.R_lt (by (with_reducible repeat (first | apply Kd.R_alloc | apply Kd.R_drewN | apply Kd.R_drew)); exact HO_3.out))) (g := gb172) (o := .cells #[.int .i64 ((rd_T87 l0 x10_1).f0), .int .i64 ((rd_T87 l0 x10_1).f1), .int .i64 ((rd_T87 l0 x10_1).f2)] 87 (0, 0)) BK172.out) (below_size (by repeat (first | (with_reducible first | exact HB.out | apply ba_ | apply bn_ | apply bd_ | refine bs_ ?_ GE172.out) | exact HB.out))))
        replace HO_3 := As_ (Kd.R_elder' (by (with_reducible repeat (first | apply Kd.R_alloc | apply Kd.R_drewN | apply Kd.R_drew)); exact HO_3.out) (Kd.R_base ho28) hb)
        replace BK172 := As_ (blk_b hb BK172.out)
        replace HR181 := As_ (Kd.C_below (by repeat (first | (with_reducible exact HR181.out) | (with_reducible refine Kd.C_alloc ?_ _) | (with_reducible refine Kd.C_drewN ?_ _) | (with_reducible refine Kd.C_drew ?_) | exact HR181.out)) hb)
        replace HB := As_ (below_step (by repeat (first | (with_reducible first | exact HB.out | apply ba_ | apply bn_ | apply bd_ | refine bs_ ?_ GE172.out) | exact HB.out)) hb); clear hb ho28
        refine hK.out _ _ ⟨(blk_cell BK172.out 0).trans rfl, (blk_cell BK172.out 1).trans rfl, (blk_cell BK172.out 2).trans rfl⟩ (fun hHeld => ?_); clear hK K
        refine norm_ (a' := ?_) ?_ ?_; rotate_left
        ·
         show Act.put _ (some 29) _ = _
         simp only [Act.put, sib_, sc0_, sc1_, i64_w, i32_w]
         rfl
        refine two_ (i := 4) (j := 6) (Ni := some 33) (Nj := some 35) #[true, true, true, true, true, true, false, false, false] #[true, true, true, true, false, true, true, false, false] rfl rfl rfl rfl (two_of HT_.out (by kernel_rfl)) (by decide) (by decide) (fun K hK => ?_) (fun K hK => ?_)
        ·
         refine Kd.R_append_rows_step k87 (w0 := w) w.heap.size (by rfl) (.tmp 29) (.tmp 32) 29 87 (.agg #[(.int .i64 0), (.int .i64 0), (.int .i64 0)]) 24 rfl Try.underlying29 info87 rfl (by decide) (by omega) v176 y175 y178 _ _ _ (fun k_ => some k_ ≠ (.slice (some ad173) x3_1.length co7 : Value).ownBlock ∧ k_ ≠ gb172) (fun _ => False) rfl rfl ?aO ?aR (fun _ _ h => h) (fun _ h => h.elim) ?aF ?aB ?aS ?aL ?_
         (case aR => repeat (first | exact (by repeat (first | (with_reducible exact HR181.out) | (with_reducible refine Kd.C_alloc ?_ _) | (with_reducible refine Kd.C_drewN ?_ _) | (with_reducible refine Kd.C_drew ?_) | exact HR181.out)) | (with_reducible refine Kd.C_alloc ?_ _) | (with_reducible refine Kd.C_drewN ?_ _) | (with_reducible refine Kd.C_drew ?_)))
         (case aB => exact (by repeat (first | (with_reducible first | exact HB.out | apply ba_ | apply bn_ | apply bd_ | refine bs_ ?_ GE172.out) | exact HB.out)))
         (case aF => exact (fun k_ hk => ⟨Kd.fresh' (Kd.R_lt (by (with_reducible repeat (first | apply Kd.R_alloc | apply Kd.R_drewN | apply Kd.R_drew)); exact HO_3.out)) k_ hk, Kd.freshB (g := gb172) (o := .cells #[.int .i64 ((rd_T87 l0 x10_1).f0), .int .i64 ((rd_T87 l0 x10_1).f1), .int .i64 ((rd_T87 l0 x10_1).f2)] 87 (0, 0)) BK172.out k_ hk⟩))
         (case aO => exact (by (with_reducible repeat (first | apply Kd.R_alloc | apply Kd.R_drewN | apply Kd.R_drew)); exact Kd.R_mono HO177.out (fun _ hk => ⟨hk.1.2, hk.2⟩)))
         (case aS => exact (below_size (by repeat (first | (with_reducible first | exact HB.out | apply ba_ | apply bn_ | apply bd_ | refine bs_ ?_ GE172.out) | exact HB.out))))
         (case aL => have := LMc18.out; omega)
         intro v183 w29 ho hb hg hat
         rw [← Ny182.out] at ho
         have n0_ := As_ (Kd.R_after (ok := (fun k_ => k_ ≠ gb172)) (by (with_reducible repeat (first | apply Kd.R_alloc | apply Kd.R_drewN | apply Kd.R_drew)); exact HO_3.out) hg hat)
         have n1_ := As_ (blk_grown (g := gb172) (o := .cells #[.int .i64 ((rd_T87 l0 x10_1).f0), .int .i64 ((rd_T87 l0 x10_1).f1), .int .i64 ((rd_T87 l0 x10_1).f2)] 87 (0, 0)) BK172.out hg (Kd.R_away HO177.out (fun _ hk => hk.2)))
         have n2_ := As_ (hb)
         have n3_ := As_ ((show Kd.C k87 w29 (some ad173) y178.length y178 from by rw [Ny178.out]; exact Kd.C_take (m := (x6_2 : Int).toNat) ((Kd.R_reads' (Kd.R_after (ok := (fun k_ => k_ ≠ gb172)) (by (with_reducible repeat (first | apply Kd.R_alloc | apply Kd.R_drewN | apply Kd.R_drew)); exact HO_3.out) hg hat)).2.2) KL26.out))
         have n4_ := As_ (ho)
         clear HO_3; clear BK172; clear HB; clear HR181; clear HO177
         have HO_3 := n0_
         have BK172 := n1_
         have HB := n2_
         have HR181 := n3_
         have HO184 := n4_
         clear n0_ n1_ n2_ n3_ n4_; clear ho hb hg hat
         refine hK.out _ _ ⟨(blk_cell BK172.out 0).trans rfl, (blk_cell BK172.out 1).trans rfl, (blk_cell BK172.out 2).trans rfl⟩ (fun hHeld => ?_); clear hK K
         refine norm_ (a' := ?_) ?_ ?_; rotate_left
         ·
          show Act.put _ (some 33) _ = _
          simp only [Act.put, sib_, sc0_, sc1_, i64_w, i32_w]
          rfl
         refine one_ (i := 6) (N := some 35) #[true, true, true, true, true, true, true, false, false] rfl rfl (one_of HT_.out (by kernel_rfl)) (by decide) (fun K hK => ?_)
         refine Kd.R_lit_step k87 _ 87 ?hg (N := 35) ?hd (xs := ([(⟨((rd_T87 l0 x10_1).f0), ((rd_T87 l0 x10_1).f1), ((rd_T87 l0 x10_1).f2)⟩ : S87)] : List (S87))) (inner := [.int .i64 ((rd_T87 l0 x10_1).f0), .int .i64 ((rd_T87 l0 x10_1).f1), .int .i64 ((rd_T87 l0 x10_1).f2)]) (ok := fun _ => True) (okp := fun _ => True) ?hr ?hp (fun _ hk => hk) trivial (Below.refl _ _) (Nat.le_refl _) (by simp) ?_; (case hd => rfl); (case hg => rfl); (case hr => first | (go_simp; done) | (go_simp; rfl)); (case hp => exact (Reps.c3 (show Kd.M k87 _ _ _ (⟨((rd_T87 l0 x10_1).f0), ((rd_T87 l0 x10_1).f1), ((rd_T87 l0 x10_1).f2)⟩ : S87) [.int .i64 ((rd_T87 l0 x10_1).f0), .int .i64 ((rd_T87 l0 x10_1).f1), .int .i64 ((rd_T87 l0 x10_1).f2)] from (k87_mkM _ _ _ (⟨((rd_T87 l0 x10_1).f0), ((rd_T87 l0 x10_1).f1), ((rd_T87 l0 x10_1).f2)⟩ : S87) )) (Reps.none _ _)))
         intro v186 w30 ho31 hb hg_ hnew_; clear hg_ hnew_
         (first | rw [← Ny185.out] at ho31 | (simp only [Int.reduceToNat] at ho31; rw [← Ny185.out] at ho31))
         have HO187 := As_ (Kd.R_lower (Kd.R_newB (Kd.R_new' (Kd.R_new' ho31 (Kd.R_lt (by (with_reducible repeat (first | apply Kd.R_alloc | apply Kd.R_drewN | apply Kd.R_drew)); exact HO_3.out))) (Kd.R_lt (by (with_reducible repeat (first | apply Kd.R_alloc | apply Kd.R_drewN | apply Kd.R_drew)); exact HO184.out))) (g := gb172) (o := .cells #[.int .i64 ((rd_T87 l0 x10_1).f0), .int .i64 ((rd_T87 l0 x10_1).f1), .int .i64 ((rd_T87 l0 x10_1).f2)] 87 (0, 0)) BK172.out) (below_size (by repeat (first | (with_reducible first | exact HB.out | apply ba_ | apply bn_ | apply bd_ | refine bs_ ?_ GE172.out) | exact HB.out))))
         replace HO_3 := As_ (Kd.R_elder' (by (with_reducible repeat (first | apply Kd.R_alloc | apply Kd.R_drewN | apply Kd.R_drew)); exact HO_3.out) (Kd.R_base ho31) hb)
         replace HO184 := As_ (Kd.R_elder' (by (with_reducible repeat (first | apply Kd.R_alloc | apply Kd.R_drewN | apply Kd.R_drew)); exact HO184.out) (Kd.R_base ho31) hb)
         replace BK172 := As_ (blk_b hb BK172.out)
         replace HR181 := As_ (Kd.C_below (by repeat (first | (with_reducible exact HR181.out) | (with_reducible refine Kd.C_alloc ?_ _) | (with_reducible refine Kd.C_drewN ?_ _) | (with_reducible refine Kd.C_drew ?_) | exact HR181.out)) hb)
         replace HB := As_ (below_step (by repeat (first | (with_reducible first | exact HB.out | apply ba_ | apply bn_ | apply bd_ | refine bs_ ?_ GE172.out) | exact HB.out)) hb); clear hb ho31
         refine hK.out _ _ ⟨(blk_cell BK172.out 0).trans rfl, (blk_cell BK172.out 1).trans rfl, (blk_cell BK172.out 2).trans rfl⟩ (fun hHeld => ?_); clear hK K
         refine norm_ (a' := ?_) ?_ ?_; rotate_left
         ·
          show Act.put _ (some 35) _ = _
          simp only [Act.put, sib_, sc0_, sc1_, i64_w, i32_w]
          rfl
         exact norm_ (by simp only [putAll, Act.put, sib_, sc0_, sc1_]) (hCont (v176, v183, v186) _ ⟨hHeld, (by (with_reducible repeat (first | apply Kd.R_alloc | apply Kd.R_drewN | apply Kd.R_drew)); exact Kd.R_mono HO184.out (fun _ hk => ⟨hk.2, ⟨hk.1.1, hk.1.2⟩⟩)), (by (with_reducible repeat (first | apply Kd.R_alloc | apply Kd.R_drewN | apply Kd.R_drew)); exact Kd.R_mono HO187.out (fun _ hk => ⟨hk.1.2, ⟨hk.1.1.2, hk.2⟩⟩)), (by (with_reducible repeat (first | apply Kd.R_alloc | apply Kd.R_drewN | apply Kd.R_drew)); exact Kd.R_mono HO_3.out (fun _ hk => ⟨hk.1.2, ⟨hk.2, hk.1.1⟩⟩)), BK172.out, (by repeat (first | (with_reducible first | exact HB.out | apply ba_ | apply bn_ | apply bd_ | refine bs_ ?_ GE172.out) | exact HB.out))⟩)
        ·
         refine Kd.R_lit_step k87 _ 87 ?hg (N := 35) ?hd (xs := ([(⟨((rd_T87 l0 x10_1).f0), ((rd_T87 l0 x10_1).f1), ((rd_T87 l0 x10_1).f2)⟩ : S87)] : List (S87))) (inner := [.int .i64 ((rd_T87 l0 x10_1).f0), .int .i64 ((rd_T87 l0 x10_1).f1), .int .i64 ((rd_T87 l0 x10_1).f2)]) (ok := fun _ => True) (okp := fun _ => True) ?hr ?hp (fun _ hk => hk) trivial (Below.refl _ _) (Nat.le_refl _) (by simp) ?_; (case hd => rfl); (case hg => rfl); (case hr => first | (go_simp; done) | (go_simp; rfl)); (case hp => exact (Reps.c3 (show Kd.M k87 _ _ _ (⟨((rd_T87 l0 x10_1).f0), ((rd_T87 l0 x10_1).f1), ((rd_T87 l0 x10_1).f2)⟩ : S87) [.int .i64 ((rd_T87 l0 x10_1).f0), .int .i64 ((rd_T87 l0 x10_1).f1), .int .i64 ((rd_T87 l0 x10_1).f2)] from (k87_mkM _ _ _ (⟨((rd_T87 l0 x10_1).f0), ((rd_T87 l0 x10_1).f1), ((rd_T87 l0 x10_1).f2)⟩ : S87) )) (Reps.none _ _)))
         intro v186 w29 ho30 hb hg_ hnew_; clear hg_ hnew_
         (first | rw [← Ny185.out] at ho30 | (simp only [Int.reduceToNat] at ho30; rw [← Ny185.out] at ho30))
         have HO187 := As_ (Kd.R_lower (Kd.R_newB (Kd.R_new' (Kd.R_new' ho30 (Kd.R_lt (by (with_reducible repeat (first | apply Kd.R_alloc | apply Kd.R_drewN | apply Kd.R_drew)); exact HO_3.out))) (Kd.R_lt (by (with_reducible repeat (first | apply Kd.R_alloc | apply Kd.R_drewN | apply Kd.R_drew)); exact HO177.out))) (g := gb172) (o := .cells #[.int .i64 ((rd_T87 l0 x10_1).f0), .int .i64 ((rd_T87 l0 x10_1).f1), .int .i64 ((rd_T87 l0 x10_1).f2)] 87 (0, 0)) BK172.out) (below_size (by repeat (first | (with_reducible first | exact HB.out | apply ba_ | apply bn_ | apply bd_ | refine bs_ ?_ GE172.out) | exact HB.out))))
         replace HO_3 := As_ (Kd.R_elder' (by (with_reducible repeat (first | apply Kd.R_alloc | apply Kd.R_drewN | apply Kd.R_drew)); exact HO_3.out) (Kd.R_base ho30) hb)
         replace HO177 := As_ (Kd.R_elder' (by (with_reducible repeat (first | apply Kd.R_alloc | apply Kd.R_drewN | apply Kd.R_drew)); exact HO177.out) (Kd.R_base ho30) hb)
         replace BK172 := As_ (blk_b hb BK172.out)
         replace HR181 := As_ (Kd.C_below (by repeat (first | (with_reducible exact HR181.out) | (with_reducible refine Kd.C_alloc ?_ _) | (with_reducible refine Kd.C_drewN ?_ _) | (with_reducible refine Kd.C_drew ?_) | exact HR181.out)) hb)
         replace HB := As_ (below_step (by repeat (first | (with_reducible first | exact HB.out | apply ba_ | apply bn_ | apply bd_ | refine bs_ ?_ GE172.out) | exact HB.out)) hb); clear hb ho30
         refine hK.out _ _ ⟨(blk_cell BK172.out 0).trans rfl, (blk_cell BK172.out 1).trans rfl, (blk_cell BK172.out 2).trans rfl⟩ (fun hHeld => ?_); clear hK K
         refine norm_ (a' := ?_) ?_ ?_; rotate_left
         ·
          show Act.put _ (some 35) _ = _
          simp only [Act.put, sib_, sc0_, sc1_, i64_w, i32_w]
          rfl
         refine one_ (i := 4) (N := some 33) #[true, true, true, true, true, true, true, false, false] rfl rfl (one_of HT_.out (by kernel_rfl)) (by decide) (fun K hK => ?_)
         refine Kd.R_append_rows_step k87 (w0 := w) w.heap.size (by rfl) (.tmp 29) (.tmp 32) 29 87 (.agg #[(.int .i64 0), (.int .i64 0), (.int .i64 0)]) 24 rfl Try.underlying29 info87 rfl (by decide) (by omega) v176 y175 y178 _ _ _ (fun k_ => some k_ ≠ (.slice (some ad173) x3_1.length co7 : Value).ownBlock ∧ some k_ ≠ (v186 : Value).ownBlock ∧ k_ ≠ gb172) (fun _ => False) rfl rfl ?aO ?aR (fun _ _ h => h) (fun _ h => h.elim) ?aF ?aB ?aS ?aL ?_
         (case aR => repeat (first | exact (by repeat (first | (with_reducible exact HR181.out) | (with_reducible refine Kd.C_alloc ?_ _) | (with_reducible refine Kd.C_drewN ?_ _) | (with_reducible refine Kd.C_drew ?_) | exact HR181.out)) | (with_reducible refine Kd.C_alloc ?_ _) | (with_reducible refine Kd.C_drewN ?_ _) | (with_reducible refine Kd.C_drew ?_)))
         (case aB => exact (by repeat (first | (with_reducible first | exact HB.out | apply ba_ | apply bn_ | apply bd_ | refine bs_ ?_ GE172.out) | exact HB.out)))
         (case aF => exact (fun k_ hk => ⟨Kd.fresh' (Kd.R_lt (by (with_reducible repeat (first | apply Kd.R_alloc | apply Kd.R_drewN | apply Kd.R_drew)); exact HO_3.out)) k_ hk, Kd.fresh' (Kd.R_lt (by (with_reducible repeat (first | apply Kd.R_alloc | apply Kd.R_drewN | apply Kd.R_drew)); exact HO187.out)) k_ hk, Kd.freshB (g := gb172) (o := .cells #[.int .i64 ((rd_T87 l0 x10_1).f0), .int .i64 ((rd_T87 l0 x10_1).f1), .int .i64 ((rd_T87 l0 x10_1).f2)] 87 (0, 0)) BK172.out k_ hk⟩))
         (case aO => exact (by (with_reducible repeat (first | apply Kd.R_alloc | apply Kd.R_drewN | apply Kd.R_drew)); exact Kd.R_mono HO177.out (fun _ hk => ⟨hk.1.1.2, ⟨hk.2, hk.1.2⟩⟩)))
         (case aS => exact (below_size (by repeat (first | (with_reducible first | exact HB.out | apply ba_ | apply bn_ | apply bd_ | refine bs_ ?_ GE172.out) | exact HB.out))))
         (case aL => have := LMc18.out; omega)
         intro v183 w31 ho hb hg hat
         rw [← Ny182.out] at ho
         have n0_ := As_ (Kd.R_after (ok := (fun k_ => some k_ ≠ (v186 : Value).ownBlock ∧ k_ ≠ gb172)) (by (with_reducible repeat (first | apply Kd.R_alloc | apply Kd.R_drewN | apply Kd.R_drew)); exact Kd.R_mono HO_3.out (fun _ hk => ⟨⟨hk.2, hk.1.1⟩, hk.1.2⟩)) hg hat)
         have n1_ := As_ (blk_grown (g := gb172) (o := .cells #[.int .i64 ((rd_T87 l0 x10_1).f0), .int .i64 ((rd_T87 l0 x10_1).f1), .int .i64 ((rd_T87 l0 x10_1).f2)] 87 (0, 0)) BK172.out hg (Kd.R_away HO177.out (fun _ hk => hk.1.2)))
         have n2_ := As_ (Kd.R_after (ok := (fun k_ => some k_ ≠ (.slice (some ad173) x3_1.length co7 : Value).ownBlock ∧ k_ ≠ gb172)) (by (with_reducible repeat (first | apply Kd.R_alloc | apply Kd.R_drewN | apply Kd.R_drew)); exact Kd.R_mono HO187.out (fun _ hk => ⟨⟨hk.1.1.2, hk.2⟩, hk.1.2⟩)) hg hat)
         have n3_ := As_ (hb)
         have n4_ := As_ ((show Kd.C k87 w31 (some ad173) y178.length y178 from by rw [Ny178.out]; exact Kd.C_take (m := (x6_2 : Int).toNat) ((Kd.R_reads' (Kd.R_after (ok := (fun k_ => some k_ ≠ (v186 : Value).ownBlock ∧ k_ ≠ gb172)) (by (with_reducible repeat (first | apply Kd.R_alloc | apply Kd.R_drewN | apply Kd.R_drew)); exact Kd.R_mono HO_3.out (fun _ hk => ⟨⟨hk.2, hk.1.1⟩, hk.1.2⟩)) hg hat)).2.2) KL26.out))
         have n5_ := As_ (ho)
         clear HO_3; clear BK172; clear HO187; clear HB; clear HR181; clear HO177
         have HO_3 := n0_
         have BK172 := n1_
         have HO187 := n2_
         have HB := n3_
         have HR181 := n4_
         have HO184 := n5_
         clear n0_ n1_ n2_ n3_ n4_ n5_; clear ho hb hg hat
         refine hK.out _ _ ⟨(blk_cell BK172.out 0).trans rfl, (blk_cell BK172.out 1).trans rfl, (blk_cell BK172.out 2).trans rfl⟩ (fun hHeld => ?_); clear hK K
         refine norm_ (a' := ?_) ?_ ?_; rotate_left
         ·
          show Act.put _ (some 33) _ = _
          simp only [Act.put, sib_, sc0_, sc1_, i64_w, i32_w]
          rfl
         exact norm_ (by simp only [putAll, Act.put, sib_, sc0_, sc1_]) (hCont (v176, v183, v186) _ ⟨hHeld, (by (with_reducible repeat (first | apply Kd.R_alloc | apply Kd.R_drewN | apply Kd.R_drew)); exact Kd.R_mono HO184.out (fun _ hk => ⟨hk.2.1, ⟨hk.1, hk.2.2⟩⟩)), (by (with_reducible repeat (first | apply Kd.R_alloc | apply Kd.R_drewN | apply Kd.R_drew)); exact Kd.R_mono HO187.out (fun _ hk => ⟨hk.2, ⟨hk.1.1, hk.1.2⟩⟩)), (by (with_reducible repeat (first | apply Kd.R_alloc | apply Kd.R_drewN | apply Kd.R_drew)); exact Kd.R_mono HO_3.out (fun _ hk => ⟨hk.2, ⟨hk.1.1, hk.1.2⟩⟩)), BK172.out, (by repeat (first | (with_reducible first | exact HB.out | apply ba_ | apply bn_ | apply bd_ | refine bs_ ?_ GE172.out) | exact HB.out))⟩)
       ·
        refine Kd.R_lit_step k87 _ 87 ?hg (N := 35) ?hd (xs := ([(⟨((rd_T87 l0 x10_1).f0), ((rd_T87 l0 x10_1).f1), ((rd_T87 l0 x10_1).f2)⟩ : S87)] : List (S87))) (inner := [.int .i64 ((rd_T87 l0 x10_1).f0), .int .i64 ((rd_T87 l0 x10_1).f1), .int .i64 ((rd_T87 l0 x10_1).f2)]) (ok := fun _ => True) (okp := fun _ => True) ?hr ?hp (fun _ hk => hk) trivial (Below.refl _ _) (Nat.le_refl _) (by simp) ?_; (case hd => rfl); (case hg => rfl); (case hr => first | (go_simp; done) | (go_simp; rfl)); (case hp => exact (Reps.c3 (show Kd.M k87 _ _ _ (⟨((rd_T87 l0 x10_1).f0), ((rd_T87 l0 x10_1).f1), ((rd_T87 l0 x10_1).f2)⟩ : S87) [.int .i64 ((rd_T87 l0 x10_1).f0), .int .i64 ((rd_T87 l0 x10_1).f1), .int .i64 ((rd_T87 l0 x10_1).f2)] from (k87_mkM _ _ _ (⟨((rd_T87 l0 x10_1).f0), ((rd_T87 l0 x10_1).f1), ((rd_T87 l0 x10_1).f2)⟩ : S87) )) (Reps.none _ _)))
        intro v186 w27 ho28 hb hg_ hnew_; clear hg_ hnew_
        (first | rw [← Ny185.out] at ho28 | (simp only [Int.reduceToNat] at ho28; rw [← Ny185.out] at ho28))
        have HO187 := As_ (Kd.R_lower (Kd.R_newB (Kd.R_new' ho28 (Kd.R_lt (by (with_reducible repeat (first | apply Kd.R_alloc | apply Kd.R_drewN | apply Kd.R_drew)); exact HO_3.out))) (g := gb172) (o := .cells #[.int .i64 ((rd_T87 l0 x10_1).f0), .int .i64 ((rd_T87 l0 x10_1).f1), .int .i64 ((rd_T87 l0 x10_1).f2)] 87 (0, 0)) BK172.out) (below_size (by repeat (first | (with_reducible first | exact HB.out | apply ba_ | apply bn_ | apply bd_ | refine bs_ ?_ GE172.out) | exact HB.out))))
        replace HO_3 := As_ (Kd.R_elder' (by (with_reducible repeat (first | apply Kd.R_alloc | apply Kd.R_drewN | apply Kd.R_drew)); exact HO_3.out) (Kd.R_base ho28) hb)
        replace BK172 := As_ (blk_b hb BK172.out)
        replace HR181 := As_ (Kd.C_below (by repeat (first | (with_reducible exact HR181.out) | (with_reducible refine Kd.C_alloc ?_ _) | (with_reducible refine Kd.C_drewN ?_ _) | (with_reducible refine Kd.C_drew ?_) | exact HR181.out)) hb)
        replace HB := As_ (below_step (by repeat (first | (with_reducible first | exact HB.out | apply ba_ | apply bn_ | apply bd_ | refine bs_ ?_ GE172.out) | exact HB.out)) hb); clear hb ho28
        refine hK.out _ _ ⟨(blk_cell BK172.out 0).trans rfl, (blk_cell BK172.out 1).trans rfl, (blk_cell BK172.out 2).trans rfl⟩ (fun hHeld => ?_); clear hK K
        refine norm_ (a' := ?_) ?_ ?_; rotate_left
        ·
         show Act.put _ (some 35) _ = _
         simp only [Act.put, sib_, sc0_, sc1_, i64_w, i32_w]
         rfl
        refine one_ (i := 0) (N := some 29) #[true, true, true, true, false, true, true, false, false] rfl rfl (one_of HT_.out (by kernel_rfl)) (by decide) (fun K hK => ?_)
        refine Kd.R_lit_step k87 _ 87 ?hg (N := 29) ?hd (xs := ([] : List (S87))) (inner := []) (ok := fun _ => True) (okp := fun _ => True) ?hr ?hp (fun _ hk => hk) trivial (Below.refl _ _) (Nat.le_refl _) (by simp) ?_; (case hd => rfl); (case hg => rfl); (case hr => first | (go_simp; done) | (go_simp; rfl)); (case hp => exact (Reps.none _ _))
        intro v176 w29 ho30 hb hg_ hnew_; clear hg_ hnew_
        (first | rw [← Ny175.out] at ho30 | (simp only [Int.reduceToNat] at ho30; rw [← Ny175.out] at ho30))
        have HO177 := As_ (Kd.R_lower (Kd.R_newB (Kd.R_new' (Kd.R_new' ho30 (Kd.R_lt (by (with_reducible repeat (first | apply Kd.R_alloc | apply Kd.R_drewN | apply Kd.R_drew)); exact HO_3.out))) (Kd.R_lt (by (with_reducible repeat (first | apply Kd.R_alloc | apply Kd.R_drewN | apply Kd.R_drew)); exact HO187.out))) (g := gb172) (o := .cells #[.int .i64 ((rd_T87 l0 x10_1).f0), .int .i64 ((rd_T87 l0 x10_1).f1), .int .i64 ((rd_T87 l0 x10_1).f2)] 87 (0, 0)) BK172.out) (below_size (by repeat (first | (with_reducible first | exact HB.out | apply ba_ | apply bn_ | apply bd_ | refine bs_ ?_ GE172.out) | exact HB.out))))
        replace HO_3 := As_ (Kd.R_elder' (by (with_reducible repeat (first | apply Kd.R_alloc | apply Kd.R_drewN | apply Kd.R_drew)); exact HO_3.out) (Kd.R_base ho30) hb)
        replace HO187 := As_ (Kd.R_elder' (by (with_reducible repeat (first | apply Kd.R_alloc | apply Kd.R_drewN | apply Kd.R_drew)); exact HO187.out) (Kd.R_base ho30) hb)
        replace BK172 := As_ (blk_b hb BK172.out)
        replace HR181 := As_ (Kd.C_below (by repeat (first | (with_reducible exact HR181.out) | (with_reducible refine Kd.C_alloc ?_ _) | (with_reducible refine Kd.C_drewN ?_ _) | (with_reducible refine Kd.C_drew ?_) | exact HR181.out)) hb)
        replace HB := As_ (below_step (by repeat (first | (with_reducible first | exact HB.out | apply ba_ | apply bn_ | apply bd_ | refine bs_ ?_ GE172.out) | exact HB.out)) hb); clear hb ho30
        refine hK.out _ _ ⟨(blk_cell BK172.out 0).trans rfl, (blk_cell BK172.out 1).trans rfl, (blk_cell BK172.out 2).trans rfl⟩ (fun hHeld => ?_); clear hK K
        refine norm_ (a' := ?_) ?_ ?_; rotate_left
        ·
         show Act.put _ (some 29) _ = _
         simp only [Act.put, sib_, sc0_, sc1_, i64_w, i32_w]
         rfl
        refine one_ (i := 4) (N := some 33) #[true, true, true, true, true, true, true, false, false] rfl rfl (one_of HT_.out (by kernel_rfl)) (by decide) (fun K hK => ?_)
        refine Kd.R_append_rows_step k87 (w0 := w) w.heap.size (by rfl) (.tmp 29) (.tmp 32) 29 87 (.agg #[(.int .i64 0), (.int .i64 0), (.int .i64 0)]) 24 rfl Try.underlying29 info87 rfl (by decide) (by omega) v176 y175 y178 _ _ _ (fun k_ => some k_ ≠ (.slice (some ad173) x3_1.length co7 : Value).ownBlock ∧ some k_ ≠ (v186 : Value).ownBlock ∧ k_ ≠ gb172) (fun _ => False) rfl rfl ?aO ?aR (fun _ _ h => h) (fun _ h => h.elim) ?aF ?aB ?aS ?aL ?_
        (case aR => repeat (first | exact (by repeat (first | (with_reducible exact HR181.out) | (with_reducible refine Kd.C_alloc ?_ _) | (with_reducible refine Kd.C_drewN ?_ _) | (with_reducible refine Kd.C_drew ?_) | exact HR181.out)) | (with_reducible refine Kd.C_alloc ?_ _) | (with_reducible refine Kd.C_drewN ?_ _) | (with_reducible refine Kd.C_drew ?_)))
        (case aB => exact (by repeat (first | (with_reducible first | exact HB.out | apply ba_ | apply bn_ | apply bd_ | refine bs_ ?_ GE172.out) | exact HB.out)))
        (case aF => exact (fun k_ hk => ⟨Kd.fresh' (Kd.R_lt (by (with_reducible repeat (first | apply Kd.R_alloc | apply Kd.R_drewN | apply Kd.R_drew)); exact HO_3.out)) k_ hk, Kd.fresh' (Kd.R_lt (by (with_reducible repeat (first | apply Kd.R_alloc | apply Kd.R_drewN | apply Kd.R_drew)); exact HO187.out)) k_ hk, Kd.freshB (g := gb172) (o := .cells #[.int .i64 ((rd_T87 l0 x10_1).f0), .int .i64 ((rd_T87 l0 x10_1).f1), .int .i64 ((rd_T87 l0 x10_1).f2)] 87 (0, 0)) BK172.out k_ hk⟩))
        (case aO => exact (by (with_reducible repeat (first | apply Kd.R_alloc | apply Kd.R_drewN | apply Kd.R_drew)); exact Kd.R_mono HO177.out (fun _ hk => ⟨hk.1.1.2, ⟨hk.1.2, hk.2⟩⟩)))
        (case aS => exact (below_size (by repeat (first | (with_reducible first | exact HB.out | apply ba_ | apply bn_ | apply bd_ | refine bs_ ?_ GE172.out) | exact HB.out))))
        (case aL => have := LMc18.out; omega)
        intro v183 w31 ho hb hg hat
        rw [← Ny182.out] at ho
        have n0_ := As_ (Kd.R_after (ok := (fun k_ => some k_ ≠ (v186 : Value).ownBlock ∧ k_ ≠ gb172)) (by (with_reducible repeat (first | apply Kd.R_alloc | apply Kd.R_drewN | apply Kd.R_drew)); exact Kd.R_mono HO_3.out (fun _ hk => ⟨⟨hk.1.2, hk.1.1⟩, hk.2⟩)) hg hat)
        have n1_ := As_ (blk_grown (g := gb172) (o := .cells #[.int .i64 ((rd_T87 l0 x10_1).f0), .int .i64 ((rd_T87 l0 x10_1).f1), .int .i64 ((rd_T87 l0 x10_1).f2)] 87 (0, 0)) BK172.out hg (Kd.R_away HO177.out (fun _ hk => hk.2)))
        have n2_ := As_ (Kd.R_after (ok := (fun k_ => some k_ ≠ (.slice (some ad173) x3_1.length co7 : Value).ownBlock ∧ k_ ≠ gb172)) (by (with_reducible repeat (first | apply Kd.R_alloc | apply Kd.R_drewN | apply Kd.R_drew)); exact Kd.R_mono HO187.out (fun _ hk => ⟨⟨hk.1.1.2, hk.1.2⟩, hk.2⟩)) hg hat)
        have n3_ := As_ (hb)
        have n4_ := As_ ((show Kd.C k87 w31 (some ad173) y178.length y178 from by rw [Ny178.out]; exact Kd.C_take (m := (x6_2 : Int).toNat) ((Kd.R_reads' (Kd.R_after (ok := (fun k_ => some k_ ≠ (v186 : Value).ownBlock ∧ k_ ≠ gb172)) (by (with_reducible repeat (first | apply Kd.R_alloc | apply Kd.R_drewN | apply Kd.R_drew)); exact Kd.R_mono HO_3.out (fun _ hk => ⟨⟨hk.1.2, hk.1.1⟩, hk.2⟩)) hg hat)).2.2) KL26.out))
        have n5_ := As_ (ho)
        clear HO_3; clear BK172; clear HO187; clear HB; clear HR181; clear HO177
        have HO_3 := n0_
        have BK172 := n1_
        have HO187 := n2_
        have HB := n3_
        have HR181 := n4_
        have HO184 := n5_
        clear n0_ n1_ n2_ n3_ n4_ n5_; clear ho hb hg hat
        refine hK.out _ _ ⟨(blk_cell BK172.out 0).trans rfl, (blk_cell BK172.out 1).trans rfl, (blk_cell BK172.out 2).trans rfl⟩ (fun hHeld => ?_); clear hK K
        refine norm_ (a' := ?_) ?_ ?_; rotate_left
        ·
         show Act.put _ (some 33) _ = _
         simp only [Act.put, sib_, sc0_, sc1_, i64_w, i32_w]
         rfl
        exact norm_ (by simp only [putAll, Act.put, sib_, sc0_, sc1_]) (hCont (v176, v183, v186) _ ⟨hHeld, (by (with_reducible repeat (first | apply Kd.R_alloc | apply Kd.R_drewN | apply Kd.R_drew)); exact Kd.R_mono HO184.out (fun _ hk => ⟨hk.2.1, ⟨hk.1, hk.2.2⟩⟩)), (by (with_reducible repeat (first | apply Kd.R_alloc | apply Kd.R_drewN | apply Kd.R_drew)); exact Kd.R_mono HO187.out (fun _ hk => ⟨hk.2, ⟨hk.1.1, hk.1.2⟩⟩)), (by (with_reducible repeat (first | apply Kd.R_alloc | apply Kd.R_drewN | apply Kd.R_drew)); exact Kd.R_mono HO_3.out (fun _ hk => ⟨hk.2, ⟨hk.1.1, hk.1.2⟩⟩)), BK172.out, (by repeat (first | (with_reducible first | exact HB.out | apply ba_ | apply bn_ | apply bd_ | refine bs_ ?_ GE172.out) | exact HB.out))⟩)
      rintro ⟨v176, v183, v186⟩ w32 ⟨hS_, h0_, h1_, h2_, h3_, h4_⟩
      have n0_ : Aside0 (Kd.R k87 87 w32 w.heap.size (fun k_ => some k_ ≠ (v186 : Value).ownBlock ∧ some k_ ≠ (.slice (some ad173) x3_1.length co7 : Value).ownBlock ∧ k_ ≠ gb172) v183 y182) := ⟨h0_⟩
      have n1_ : Aside0 (Kd.R k87 87 w32 w.heap.size (fun k_ => some k_ ≠ (v183 : Value).ownBlock ∧ some k_ ≠ (.slice (some ad173) x3_1.length co7 : Value).ownBlock ∧ k_ ≠ gb172) v186 y185) := ⟨h1_⟩
      have n2_ : Aside0 (Kd.R k87 87 w32 w.heap.size (fun k_ => some k_ ≠ (v183 : Value).ownBlock ∧ some k_ ≠ (v186 : Value).ownBlock ∧ k_ ≠ gb172) (.slice (some ad173) x3_1.length co7) x3_1) := ⟨h2_⟩
      have n3_ : Aside0 (w32.heap[gb172]? = some (.cells #[.int .i64 ((rd_T87 l0 x10_1).f0), .int .i64 ((rd_T87 l0 x10_1).f1), .int .i64 ((rd_T87 l0 x10_1).f2)] 87 (0, 0))) := ⟨h3_⟩
      have n4_ : Aside0 (Below w.heap.size w w32) := ⟨h4_⟩
      clear HO_3; clear BK172; clear HB; clear h0_ h1_ h2_ h3_ h4_
      have HO184 := n0_
      have HO187 := n1_
      have HO_3 := n2_
      have BK172 := n3_
      have HB := n4_
      clear n0_ n1_ n2_ n3_ n4_
      have hHeld : w32.cell? ⟨gb172, 0, none⟩ = some (.int .i64 ((rd_T87 l0 x10_1).f0)) ∧ w32.cell? ⟨gb172, 1, none⟩ = some (.int .i64 ((rd_T87 l0 x10_1).f1)) ∧ w32.cell? ⟨gb172, 2, none⟩ = some (.int .i64 ((rd_T87 l0 x10_1).f2)) := hS_
      obtain ⟨Ao34, co34, eo34⟩ := Kd.R_slice HO187.out
      (first | subst eo34 | (injection eo34 with f1_ f2_ f3_; have f4_ := f1_.symm; have f5_ := f3_.symm; clear f1_ f2_ f3_; subst f4_; subst f5_))
      refine norm_ (a' := ?_) ?_ ?_; rotate_left
      · simp only [putAll, Act.put, sib_, sc0_, sc1_]; rfl
      refine one_ (i := 7) (N := some 36) #[true, true, true, true, true, true, true, true, false] rfl rfl (one_of HT_.out (by kernel_rfl)) (by decide) (fun K hK => ?_)
      refine Kd.R_append_rows_step k87 (w0 := w) w.heap.size (by rfl) (.tmp 33) (.tmp 35) 29 87 (.agg #[(.int .i64 0), (.int .i64 0), (.int .i64 0)]) 24 rfl Try.underlying29 info87 rfl (by decide) (by omega) v183 y182 y185 _ _ _ (fun k_ => some k_ ≠ (.slice (some ad173) x3_1.length co7 : Value).ownBlock ∧ some k_ ≠ (.slice Ao34 y185.length co34 : Value).ownBlock ∧ k_ ≠ gb172) (fun _ => False) rfl rfl ?aO ?aR (fun _ _ h => h) (fun _ h => h.elim) ?aF ?aB ?aS ?aL ?_
      (case aR => repeat (first | exact (Kd.R_reads' HO187.out).2.2 | (with_reducible refine Kd.C_alloc ?_ _) | (with_reducible refine Kd.C_drewN ?_ _) | (with_reducible refine Kd.C_drew ?_)))
      (case aB => exact (by repeat (first | (with_reducible first | exact HB.out | apply ba_ | apply bn_ | apply bd_ | refine bs_ ?_ GE172.out) | exact HB.out)))
      (case aF => exact (fun k_ hk => ⟨Kd.fresh' (Kd.R_lt (by (with_reducible repeat (first | apply Kd.R_alloc | apply Kd.R_drewN | apply Kd.R_drew)); exact HO_3.out)) k_ hk, Kd.fresh' (Kd.R_lt (by (with_reducible repeat (first | apply Kd.R_alloc | apply Kd.R_drewN | apply Kd.R_drew)); exact HO187.out)) k_ hk, Kd.freshB (g := gb172) (o := .cells #[.int .i64 ((rd_T87 l0 x10_1).f0), .int .i64 ((rd_T87 l0 x10_1).f1), .int .i64 ((rd_T87 l0 x10_1).f2)] 87 (0, 0)) BK172.out k_ hk⟩))
      (case aO => exact (by (with_reducible repeat (first | apply Kd.R_alloc | apply Kd.R_drewN | apply Kd.R_drew)); exact Kd.R_mono HO184.out (fun _ hk => ⟨hk.2.1, ⟨hk.1, hk.2.2⟩⟩)))
      (case aS => exact (below_size (by repeat (first | (with_reducible first | exact HB.out | apply ba_ | apply bn_ | apply bd_ | refine bs_ ?_ GE172.out) | exact HB.out))))
      (case aL => have := LMc19.out; omega)
      intro v189 w33 ho hb hg hat
      rw [← Ny188.out] at ho
      have n0_ := As_ (Kd.R_after (ok := (fun k_ => some k_ ≠ (.slice Ao34 y185.length co34 : Value).ownBlock ∧ k_ ≠ gb172)) (by (with_reducible repeat (first | apply Kd.R_alloc | apply Kd.R_drewN | apply Kd.R_drew)); exact Kd.R_mono HO_3.out (fun _ hk => ⟨⟨hk.2.1, hk.2.2⟩, hk.1⟩)) hg hat)
      have n1_ := As_ (blk_grown (g := gb172) (o := .cells #[.int .i64 ((rd_T87 l0 x10_1).f0), .int .i64 ((rd_T87 l0 x10_1).f1), .int .i64 ((rd_T87 l0 x10_1).f2)] 87 (0, 0)) BK172.out hg (Kd.R_away HO184.out (fun _ hk => hk.2.2)))
      have n2_ := As_ (Kd.R_after (ok := (fun k_ => some k_ ≠ (.slice (some ad173) x3_1.length co7 : Value).ownBlock ∧ k_ ≠ gb172)) (by (with_reducible repeat (first | apply Kd.R_alloc | apply Kd.R_drewN | apply Kd.R_drew)); exact Kd.R_mono HO187.out (fun _ hk => ⟨⟨hk.2.1, hk.2.2⟩, hk.1⟩)) hg hat)
      have n3_ := As_ (hb)
      have n4_ := As_ (ho)
      clear HO_3; clear BK172; clear HO187; clear HB; clear HO184
      have HO_3 := n0_
      have BK172 := n1_
      have HO187 := n2_
      have HB := n3_
      have HO190 := n4_
      clear n0_ n1_ n2_ n3_ n4_; clear ho hb hg hat
      refine hK.out _ _ ⟨(blk_cell BK172.out 0).trans rfl, (blk_cell BK172.out 1).trans rfl, (blk_cell BK172.out 2).trans rfl⟩ (fun hHeld => ?_); clear hK K
      refine norm_ (a' := ?_) ?_ ?_; rotate_left
      ·
       show Act.put _ (some 36) _ = _
       simp only [Act.put, sib_, sc0_, sc1_, i64_w, i32_w]
       rfl
      refine pu_ (v := ?_) (a' := ?_) 8 (some 7) #[true, true, true, true, true, true, true, true, true] rfl rfl (any_of HT_.out (by kernel_rfl)) (fun _ _ _ h => h) (.inl ⟨by rfl, ?_⟩) ?_ ?_; rotate_left
      · intro w'; go_simp; with_reducible rfl
      rotate_left
      · simp only [Act.put, sib_, sc0_, sc1_, i64_w, i32_w]; rfl
      refine done_ (done_of HT_.out (by kernel_rfl)) ?_
      have q35 : (x6_2 : Int) ≤ ((x3_1.length : Int) : Int) := of_decide_eq_true (by first | (with_reducible assumption) | assumption)
      obtain ⟨i035, hi035, _, hsz35, _⟩ := info_parts info87
      have hroom35 : x3_1.length ≤ co7 := (Kd.R_reads' HO_3.out).2.1
      have hC35 : Kd.C k87 _ (some ad173) x3_1.length x3_1 := (Kd.R_reads' HO_3.out).2.2
      have q035 : (0 : Int) ≤ (x6_2 : Int) := of_decide_eq_true (by first | (with_reducible assumption) | assumption)
      have hcut35 := cut_from (P := Try.prog) 29 87 .i64 Try.underlying29 hi035 3 hsz35 (some ad173) x3_1.length co7 x6_2 q035 q35
      have hr35 := Kd.C_drop (m := (x6_2 : Int).toNat) (c := co7) hC35 (by omega) hroom35
      obtain ⟨A35, hA35⟩ : ∃ A1, A1 = (if co7 = (x6_2 : Int).toNat then (some ad173) else ((some ad173) : Option Addr).map (·.add ((x6_2 : Int).toNat * 3))) := ⟨_, rfl⟩
      obtain ⟨c35, hc35⟩ : ∃ c1, c1 = co7 - (x6_2 : Int).toNat := ⟨_, rfl⟩
      have hy35 : y191.length = x3_1.length - (x6_2 : Int).toNat := (by rw [Ny191.out, List.length_drop] <;> omega)
      rw [show (x3_1).drop (x6_2 : Int).toNat = y191 from Ny191.out.symm] at hr35
      replace hr35 : Kd.C k87 _ A35 y191.length y191 := (by rw [hA35]; exact hr35)
      rw [← hy35, ← hA35, ← hc35] at hcut35
      have HR194 := As_ hr35
      have HC194 := As_ (show y191.length ≤ c35 from by rw [hy35, hc35]; exact Nat.sub_le_sub_right hroom35 _)
      clear hr35 hC35 hroom35 hi035 hsz35 hc35
      have KY35 := As_ hy35
      have KA35 := As_ hA35
      clear hy35 hA35
      have KL35 := As_ (show (x6_2 : Int).toNat ≤ x3_1.length from by omega)
      replace q35 := eq_true q35
      try go_wp2_with (first | ((with_reducible refine gate_builtin (b := .append) (xs := #[.tmp 37, .tmp 40]) rfl ?_); at_builtin; refine Kd.R_append_rows k87 (w0 := w) w.heap.size rfl (.tmp 37) (.tmp 40) 29 87 (.agg #[(.int .i64 0), (.int .i64 0), (.int .i64 0)]) 24 rfl Try.underlying29 info87 rfl (by decide) (by omega) v189 y188 y191 _ _ _ (fun k_ => some k_ ≠ (.slice (some ad173) x3_1.length co7 : Value).ownBlock ∧ some k_ ≠ (.slice Ao34 y185.length co34 : Value).ownBlock ∧ k_ ≠ gb172) (fun _ => False) rfl rfl ?aO ?aR (fun _ _ h => h) (fun _ h => h.elim) ?aF ?aB ?aS ?aL ?_; (case aR => repeat (first | exact (by repeat (first | (with_reducible exact HR194.out) | (with_reducible refine Kd.C_alloc ?_ _) | (with_reducible refine Kd.C_drewN ?_ _) | (with_reducible refine Kd.C_drew ?_) | exact HR194.out)) | (with_reducible refine Kd.C_alloc ?_ _) | (with_reducible refine Kd.C_drewN ?_ _) | (with_reducible refine Kd.C_drew ?_))); (case aB => exact (by repeat (first | (with_reducible first | exact HB.out | apply ba_ | apply bn_ | apply bd_ | refine bs_ ?_ GE172.out) | exact HB.out))); (case aF => exact (fun k_ hk => ⟨Kd.fresh' (Kd.R_lt (by (with_reducible repeat (first | apply Kd.R_alloc | apply Kd.R_drewN | apply Kd.R_drew)); exact HO_3.out)) k_ hk, Kd.fresh' (Kd.R_lt (by (with_reducible repeat (first | apply Kd.R_alloc | apply Kd.R_drewN | apply Kd.R_drew)); exact HO187.out)) k_ hk, Kd.freshB (g := gb172) (o := .cells #[.int .i64 ((rd_T87 l0 x10_1).f0), .int .i64 ((rd_T87 l0 x10_1).f1), .int .i64 ((rd_T87 l0 x10_1).f2)] 87 (0, 0)) BK172.out k_ hk⟩)); (case aO => exact (by (with_reducible repeat (first | apply Kd.R_alloc | apply Kd.R_drewN | apply Kd.R_drew)); exact HO190.out)); (case aS => exact (below_size (by repeat (first | (with_reducible first | exact HB.out | apply ba_ | apply bn_ | apply bd_ | refine bs_ ?_ GE172.out) | exact HB.out)))); (case aL => have := LMc22.out; omega); intro v196 w36 ho hb hg hat; rw [← Ny195.out] at ho; have n0_ := As_ (Kd.R_after (ok := (fun k_ => some k_ ≠ (.slice Ao34 y185.length co34 : Value).ownBlock ∧ k_ ≠ gb172)) (by (with_reducible repeat (first | apply Kd.R_alloc | apply Kd.R_drewN | apply Kd.R_drew)); exact HO_3.out) hg hat); have n1_ := As_ (blk_grown (g := gb172) (o := .cells #[.int .i64 ((rd_T87 l0 x10_1).f0), .int .i64 ((rd_T87 l0 x10_1).f1), .int .i64 ((rd_T87 l0 x10_1).f2)] 87 (0, 0)) BK172.out hg (Kd.R_away HO190.out (fun _ hk => hk.2.2))); have n2_ := As_ (Kd.R_after (ok := (fun k_ => some k_ ≠ (.slice (some ad173) x3_1.length co7 : Value).ownBlock ∧ k_ ≠ gb172)) (by (with_reducible repeat (first | apply Kd.R_alloc | apply Kd.R_drewN | apply Kd.R_drew)); exact HO187.out) hg hat); have n3_ := As_ (hb); have n4_ := As_ ((show Kd.C k87 w36 A35 y191.length y191 from by rw [Ny191.out, KA35.out]; exact Kd.C_drop (m := (x6_2 : Int).toNat) (c := co7) ((Kd.R_reads' (Kd.R_after (ok := (fun k_ => some k_ ≠ (.slice Ao34 y185.length co34 : Value).ownBlock ∧ k_ ≠ gb172)) (by (with_reducible repeat (first | apply Kd.R_alloc | apply Kd.R_drewN | apply Kd.R_drew)); exact HO_3.out) hg hat)).2.2) KL35.out ((Kd.R_reads' (Kd.R_after (ok := (fun k_ => some k_ ≠ (.slice Ao34 y185.length co34 : Value).ownBlock ∧ k_ ≠ gb172)) (by (with_reducible repeat (first | apply Kd.R_alloc | apply Kd.R_drewN | apply Kd.R_drew)); exact HO_3.out) hg hat)).2.1))); have n5_ := As_ (ho); clear HO_3; clear BK172; clear HO187; clear HB; clear HR194; clear HO190; have HO_3 := n0_; have BK172 := n1_; have HO187 := n2_; have HB := n3_; have HR194 := n4_; have HO197 := n5_; clear n0_ n1_ n2_ n3_ n4_ n5_; clear ho hb hg hat))
      go_roundg k2
      case measure => have := HK1.out; have := HK2.out; omega
      case rel => exact ⟨(y195), (wrap64 (x10_1 + 1)), (by first | rfl | (simp; done) | (simp [*]; done)), H', ⟨by have := HK1.out; have := HK2.out; omega⟩, ⟨by (with_reducible repeat (first | apply Kd.R_alloc | apply Kd.R_drewN | apply Kd.R_drew)); exact Kd.R_mono HO197.out (fun _ hk => trivial)⟩, ⟨by repeat (first | (with_reducible first | exact HB.out | apply ba_ | apply bn_ | apply bd_ | refine bs_ ?_ GE172.out) | exact HB.out)⟩⟩
    ·
     rw [if_neg c8] at H
     have c8b0 : decide (0 < x6_2) = false := decide_eq_false c8
     clear c8
     obtain ⟨y198, hy198⟩ : ∃ y_ : List (S87), y_ = (([] : List (S87))) := ⟨_, rfl⟩
     replace H : (if 0 ≤ x6_2 then (if x6_2 ≤ (x3_1.length : Int) then ((some (x3_1.take (x6_2 : Int).toNat : List (S87))).bind fun y201 => (if y198.length + y201.length < 5864062014805 then ((some (y198 ++ y201 : List (S87))).bind fun y205 => ((some (([(⟨((rd_T87 l0 x10_1).f0), ((rd_T87 l0 x10_1).f1), ((rd_T87 l0 x10_1).f2)⟩ : S87)] : List (S87)) : List (S87))).bind fun y208 => (if y205.length + y208.length < 5864062014805 then ((some (y205 ++ y208 : List (S87))).bind fun y211 => ((some (x3_1.drop (x6_2 : Int).toNat : List (S87))).bind fun y214 => (if y211.length + y214.length < 5864062014805 then (spec_cuSorted.l0 k2 (y211 ++ y214) l0 (l0.length : Int) (wrap64 (x10_1 + 1))) else (none)))) else (none)))) else (none))) else (none)) else (none)) = some r := by first | (rw [hy198]; with_reducible exact H) | (have H2_ := (Option.bind_some _ _).symm.trans H; rw [hy198]; with_reducible exact H2_) | (have H2_ := (Option.bind_some _ _).symm.trans H; with_reducible exact H2_) | with_reducible exact H | (rw [hy198]; exact H) | exact H
     have Ny198 := As_ hy198
     clear hy198
     by_cases c37 : 0 ≤ x6_2
     case neg => rw [if_neg c37] at H; exact absurd H (by simp)
     rw [if_pos c37] at H
     have c37b0 := eq_true c37
     have c37b1 : decide (0 ≤ x6_2) = true := decide_eq_true c37
     clear c37
     by_cases c38 : x6_2 ≤ (x3_1.length : Int)
     case neg => rw [if_neg c38] at H; exact absurd H (by simp)
     rw [if_pos c38] at H
     have c38b0 := eq_true c38
     have c38b1 : decide (x6_2 ≤ (x3_1.length : Int)) = true := decide_eq_true c38
     clear c38
     obtain ⟨y201, hy201⟩ : ∃ y_ : List (S87), y_ = (x3_1.take (x6_2 : Int).toNat) := ⟨_, rfl⟩
     replace H : (if y198.length + y201.length < 5864062014805 then ((some (y198 ++ y201 : List (S87))).bind fun y205 => ((some (([(⟨((rd_T87 l0 x10_1).f0), ((rd_T87 l0 x10_1).f1), ((rd_T87 l0 x10_1).f2)⟩ : S87)] : List (S87)) : List (S87))).bind fun y208 => (if y205.length + y208.length < 5864062014805 then ((some (y205 ++ y208 : List (S87))).bind fun y211 => ((some (x3_1.drop (x6_2 : Int).toNat : List (S87))).bind fun y214 => (if y211.length + y214.length < 5864062014805 then (spec_cuSorted.l0 k2 (y211 ++ y214) l0 (l0.length : Int) (wrap64 (x10_1 + 1))) else (none)))) else (none)))) else (none)) = some r := by first | (rw [hy201]; with_reducible exact H) | (have H2_ := (Option.bind_some _ _).symm.trans H; rw [hy201]; with_reducible exact H2_) | (have H2_ := (Option.bind_some _ _).symm.trans H; with_reducible exact H2_) | with_reducible exact H | (rw [hy201]; exact H) | exact H
     have Ny201 := As_ hy201
     clear hy201
     by_cases c39 : y198.length + y201.length < 5864062014805
     case neg => rw [if_neg c39] at H; exact absurd H (by simp)
     rw [if_pos c39] at H
     have LMc39 := As_ c39
     clear c39
     obtain ⟨y205, hy205⟩ : ∃ y_ : List (S87), y_ = (y198 ++ y201) := ⟨_, rfl⟩
     replace H : ((some (([(⟨((rd_T87 l0 x10_1).f0), ((rd_T87 l0 x10_1).f1), ((rd_T87 l0 x10_1).f2)⟩ : S87)] : List (S87)) : List (S87))).bind fun y208 => (if y205.length + y208.length < 5864062014805 then ((some (y205 ++ y208 : List (S87))).bind fun y211 => ((some (x3_1.drop (x6_2 : Int).toNat : List (S87))).bind fun y214 => (if y211.length + y214.length < 5864062014805 then (spec_cuSorted.l0 k2 (y211 ++ y214) l0 (l0.length : Int) (wrap64 (x10_1 + 1))) else (none)))) else (none))) = some r := by first | (rw [hy205]; with_reducible exact H) | (have H2_ := (Option.bind_some _ _).symm.trans H; rw [hy205]; with_reducible exact H2_) | (have H2_ := (Option.bind_some _ _).symm.trans H; with_reducible exact H2_) | with_reducible exact H | (rw [hy205]; exact H) | exact H
     have Ny205 := As_ hy205
     clear hy205
     obtain ⟨y208, hy208⟩ : ∃ y_ : List (S87), y_ = (([(⟨((rd_T87 l0 x10_1).f0), ((rd_T87 l0 x10_1).f1), ((rd_T87 l0 x10_1).f2)⟩ : S87)] : List (S87))) := ⟨_, rfl⟩
     replace H : (if y205.length + y208.length < 5864062014805 then ((some (y205 ++ y208 : List (S87))).bind fun y211 => ((some (x3_1.drop (x6_2 : Int).toNat : List (S87))).bind fun y214 => (if y211.length + y214.length < 5864062014805 then (spec_cuSorted.l0 k2 (y211 ++ y214) l0 (l0.length : Int) (wrap64 (x10_1 + 1))) else (none)))) else (none)) = some r := by first | (rw [hy208]; with_reducible exact H) | (have H2_ := (Option.bind_some _ _).symm.trans H; rw [hy208]; with_reducible exact H2_) | (have H2_ := (Option.bind_some _ _).symm.trans H; with_reducible exact H2_) | with_reducible exact H | (rw [hy208]; exact H) | exact H
     have Ny208 := As_ hy208
     clear hy208
     by_cases c40 : y205.length + y208.length < 5864062014805
     case neg => rw [if_neg c40] at H; exact absurd H (by simp)
     rw [if_pos c40] at H
     have LMc40 := As_ c40
     clear c40
     obtain ⟨y211, hy211⟩ : ∃ y_ : List (S87), y_ = (y205 ++ y208) := ⟨_, rfl⟩
     replace H : ((some (x3_1.drop (x6_2 : Int).toNat : List (S87))).bind fun y214 => (if y211.length + y214.length < 5864062014805 then (spec_cuSorted.l0 k2 (y211 ++ y214) l0 (l0.length : Int) (wrap64 (x10_1 + 1))) else (none))) = some r := by first | (rw [hy211]; with_reducible exact H) | (have H2_ := (Option.bind_some _ _).symm.trans H; rw [hy211]; with_reducible exact H2_) | (have H2_ := (Option.bind_some _ _).symm.trans H; with_reducible exact H2_) | with_reducible exact H | (rw [hy211]; exact H) | exact H
     have Ny211 := As_ hy211
     clear hy211
     have c41b0 := eq_true (of_decide_eq_true (by first | (with_reducible assumption) | assumption) : 0 ≤ x6_2)
     have c42b0 := eq_true (of_decide_eq_true (by first | (with_reducible assumption) | assumption) : x6_2 ≤ (x3_1.length : Int))
     obtain ⟨y214, hy214⟩ : ∃ y_ : List (S87), y_ = (x3_1.drop (x6_2 : Int).toNat) := ⟨_, rfl⟩
     replace H : (if y211.length + y214.length < 5864062014805 then (spec_cuSorted.l0 k2 (y211 ++ y214) l0 (l0.length : Int) (wrap64 (x10_1 + 1))) else (none)) = some r := by first | (rw [hy214]; with_reducible exact H) | (have H2_ := (Option.bind_some _ _).symm.trans H; rw [hy214]; with_reducible exact H2_) | (have H2_ := (Option.bind_some _ _).symm.trans H; with_reducible exact H2_) | with_reducible exact H | (rw [hy214]; exact H) | exact H
     have Ny214 := As_ hy214
     clear hy214
     by_cases c43 : y211.length + y214.length < 5864062014805
     case neg => rw [if_neg c43] at H; exact absurd H (by simp)
     rw [if_pos c43] at H
     have LMc43 := As_ c43
     clear c43
     obtain ⟨y218, hy218⟩ : ∃ y_ : List (S87), y_ = (y211 ++ y214) := ⟨_, rfl⟩
     replace H : (spec_cuSorted.l0 k2 y218 l0 (l0.length : Int) (wrap64 (x10_1 + 1))) = some r := by first | (rw [hy218]; with_reducible exact H) | (have H2_ := (Option.bind_some _ _).symm.trans H; rw [hy218]; with_reducible exact H2_) | (have H2_ := (Option.bind_some _ _).symm.trans H; with_reducible exact H2_) | with_reducible exact H | (rw [hy218]; exact H) | exact H
     have Ny218 := As_ hy218
     clear hy218
     have H' := As_ H
     clear H
     try go_wp2
     replace HO_3 := As_ (Kd.R_drew HO_3.out)
     replace BK172 := As_ (blk_drew BK172.out)
     replace HB := As_ (below_drew1 HB.out)
     refine start_ (n := 11) (S := fun w' => True) (ds := []) #[false, false, false, false, false, false, false, false, false, false, false] (by kernel_rfl) rfl rfl trivial (fun hHeld => ?_); refine with_tabW spec_cuSorted.tab6 spec_cuSorted.bits6 (fun HT_ HW_ => ?_)
     generalize wr.drew = w44 at HO_3 BK172 HB hHeld ⊢
     refine pu_ (v := ?_) (a' := ?_) 0 (some 16) #[true, false, false, false, false, false, false, false, false, false, false] rfl rfl (any_of HT_.out (by kernel_rfl)) (fun _ _ _ h => h) (.inl ⟨by rfl, ?_⟩) ?_ ?_; rotate_left
     · intro w'; go_simp; with_reducible rfl
     rotate_left
     · simp only [Act.put, sib_, sc0_, sc1_, i64_w, i32_w]; rfl
     refine pu_ (v := ?_) (a' := ?_) 1 (some 17) #[true, true, false, false, false, false, false, false, false, false, false] rfl rfl (any_of HT_.out (by kernel_rfl)) (fun _ _ _ h => h) (.inl ⟨by rfl, ?_⟩) ?_ ?_; rotate_left
     · intro w'; go_simp; with_reducible rfl
     rotate_left
     · simp only [Act.put, sib_, sc0_, sc1_, i64_w, i32_w]; rfl
     refine pu_ (v := ?_) (a' := ?_) 2 (some 18) #[true, true, true, false, false, false, false, false, false, false, false] rfl rfl (any_of HT_.out (by kernel_rfl)) (fun _ _ _ h => h) (.inl ⟨by rfl, ?_⟩) ?_ ?_; rotate_left
     · intro w'; go_simp; with_reducible rfl
     rotate_left
     · simp only [Act.put, sib_, sc0_, sc1_, i64_w, i32_w]; rfl
     refine pure_ (i := 3) (N := some 19) (v := undef) (a' := ?_) #[true, true, true, true, false, false, false, false, false, false, false] rfl rfl (any_of HT_.out (by kernel_rfl)) (fun _ _ _ h => h) (Or.inr ⟨by rfl, rfl⟩) ?_ ?_; rotate_left
     · simp only [Act.put, sib_, sc0_, sc1_, i64_w, i32_w]; rfl
     refine pure_ (i := 4) (N := some 20) (v := undef) (a' := ?_) #[true, true, true, true, true, false, false, false, false, false, false] rfl rfl (any_of HT_.out (by kernel_rfl)) (fun _ _ _ h => h) (Or.inr ⟨by rfl, rfl⟩) ?_ ?_; rotate_left
     · simp only [Act.put, sib_, sc0_, sc1_, i64_w, i32_w]; rfl
     refine pure_ (i := 5) (N := some 21) (v := undef) (a' := ?_) #[true, true, true, true, true, true, false, false, false, false, false] rfl rfl (any_of HT_.out (by kernel_rfl)) (fun _ _ _ h => h) (Or.inr ⟨by rfl, rfl⟩) ?_ ?_; rotate_left
     · simp only [Act.put, sib_, sc0_, sc1_, i64_w, i32_w]; rfl
     refine pure_ (i := 6) (N := some 22) (v := undef) (a' := ?_) #[true, true, true, true, true, true, true, false, false, false, false] rfl rfl (any_of HT_.out (by kernel_rfl)) (fun _ _ _ h => h) (Or.inr ⟨by rfl, rfl⟩) ?_ ?_; rotate_left
     · simp only [Act.put, sib_, sc0_, sc1_, i64_w, i32_w]; rfl
     refine pure_ (i := 7) (N := some 23) (v := undef) (a' := ?_) #[true, true, true, true, true, true, true, true, false, false, false] rfl rfl (any_of HT_.out (by kernel_rfl)) (fun _ _ _ h => h) (Or.inr ⟨by rfl, rfl⟩) ?_ ?_; rotate_left
     · simp only [Act.put, sib_, sc0_, sc1_, i64_w, i32_w]; rfl
     refine pure_ (i := 8) (N := some 24) (v := undef) (a' := ?_) #[true, true, true, true, true, true, true, true, true, false, false] rfl rfl (any_of HT_.out (by kernel_rfl)) (fun _ _ _ h => h) (Or.inr ⟨by rfl, rfl⟩) ?_ ?_; rotate_left
     · simp only [Act.put, sib_, sc0_, sc1_, i64_w, i32_w]; rfl
     refine pure_ (i := 9) (N := some 25) (v := undef) (a' := ?_) #[true, true, true, true, true, true, true, true, true, true, false] rfl rfl (any_of HT_.out (by kernel_rfl)) (fun _ _ _ h => h) (Or.inr ⟨by rfl, rfl⟩) ?_ ?_; rotate_left
     · simp only [Act.put, sib_, sc0_, sc1_, i64_w, i32_w]; rfl
     refine pu_ (v := ?_) (a' := ?_) 10 (some 26) #[true, true, true, true, true, true, true, true, true, true, true] rfl rfl (any_of HT_.out (by kernel_rfl)) (fun _ _ _ h => h) (.inl ⟨by rfl, ?_⟩) ?_ ?_; rotate_left
     · intro w'; go_simp; with_reducible rfl
     rotate_left
     · simp only [Act.put, sib_, sc0_, sc1_, i64_w, i32_w]; rfl
     refine done_ (done_of HT_.out (by kernel_rfl)) ?_
     try go_wp2
     replace HO_3 := As_ (Kd.R_drew HO_3.out)
     replace BK172 := As_ (blk_drew BK172.out)
     replace HB := As_ (below_drew1 HB.out)
     have q46 : (x6_2 : Int) ≤ ((x3_1.length : Int) : Int) := of_decide_eq_true (by first | (with_reducible assumption) | assumption)
     obtain ⟨i046, hi046, _, hsz46, _⟩ := info_parts info87
     have hroom46 : x3_1.length ≤ co7 := (Kd.R_reads' HO_3.out).2.1
     have hC46 : Kd.C k87 _ Ao7 x3_1.length x3_1 := (Kd.R_reads' HO_3.out).2.2
     have hcut46 := cut_to (P := Try.prog) 29 87 .i64 Try.underlying29 hi046 Ao7 x3_1.length co7 x6_2 (of_decide_eq_true (by first | (with_reducible assumption) | assumption)) q46 hroom46
     have hr46 := Kd.C_take (m := (x6_2 : Int).toNat) hC46 (by omega)
     have hy46 : y201.length = (x6_2 : Int).toNat := (by rw [Ny201.out, List.length_take]; omega)
     rw [← Ny201.out] at hr46
     rw [← hy46] at hcut46
     have HR204 := As_ hr46
     have HC204 := As_ (show y201.length ≤ co7 from by omega)
     clear hr46 hC46 hroom46 hi046 hsz46
     have KY46 := As_ hy46
     clear hy46
     have KL46 := As_ (show (x6_2 : Int).toNat ≤ x3_1.length from by omega)
     replace q46 := eq_true q46
     refine start_ (n := 9) (S := fun w' => w'.cell? ⟨gb172, 0, none⟩ = some (.int .i64 ((rd_T87 l0 x10_1).f0)) ∧ w'.cell? ⟨gb172, 1, none⟩ = some (.int .i64 ((rd_T87 l0 x10_1).f1)) ∧ w'.cell? ⟨gb172, 2, none⟩ = some (.int .i64 ((rd_T87 l0 x10_1).f2))) (ds := []) #[false, false, false, false, false, false, false, false, false] (by kernel_rfl) rfl rfl ⟨(blk_cell BK172.out 0).trans rfl, (blk_cell BK172.out 1).trans rfl, (blk_cell BK172.out 2).trans rfl⟩ (fun hHeld => ?_); refine with_tabW spec_cuSorted.tab8 spec_cuSorted.bits8 (fun HT_ HW_ => ?_)
     generalize w44.drew = w45 at HO_3 BK172 HB HR204 hHeld ⊢
     refine pu_ (v := ?_) (a' := ?_) 1 (some 30) #[false, true, false, false, false, false, false, false, false] rfl rfl (any_of HT_.out (by kernel_rfl)) (fun _ _ _ h => h) (.inl ⟨by rfl, ?_⟩) ?_ ?_; rotate_left
     · intro w'; go_simp; with_reducible rfl
     rotate_left
     · simp only [Act.put, sib_, sc0_, sc1_, i64_w, i32_w]; rfl
     refine pu_ (v := ?_) (a' := ?_) 2 (some 31) #[false, true, true, false, false, false, false, false, false] rfl rfl (any_of HT_.out (by kernel_rfl)) (fun _ _ _ h => h) (.inl ⟨by rfl, ?_⟩) ?_ ?_; rotate_left
     · intro w'; go_simp; with_reducible rfl
     rotate_left
     · simp only [Act.put, sib_, sc0_, sc1_, i64_w, i32_w]; rfl
     refine pu_ (v := ?_) (a' := ?_) 3 (some 32) #[false, true, true, true, false, false, false, false, false] rfl rfl (any_of HT_.out (by kernel_rfl)) (fun _ _ _ h => h) (.inl ⟨by rfl, ?_⟩) ?_ ?_; rotate_left
     · intro w'; go_simp; with_reducible rfl
     rotate_left
     · simp only [Act.put, sib_, sc0_, sc1_, i64_w, i32_w]; rfl
     refine take_ (i := 5) (N := some 34) (v := ?_) (a' := ?_) #[false, true, true, true, false, true, false, false, false] rfl rfl (take_ofW HT_.out HW_.out (by kernel_rfl)) (fun _ _ _ h => h) (Or.inl ⟨by rfl, ?_⟩) hHeld ?_ ?_; rotate_left
     ·
      rintro w' ⟨s0, s1, s2⟩
      go_simp
      with_reducible rfl
     rotate_left
     · simp only [Act.put, sib_, sc0_, sc1_, i64_w, i32_w]; rfl
     refine join_ (σ := Value × Value × Value) 2 #[true, true, true, true, true, true, true, false, false] (fun s_ => [(29, s_.1), (33, s_.2.1), (35, s_.2.2)]) (fun s_ w' => (w'.cell? ⟨gb172, 0, none⟩ = some (.int .i64 ((rd_T87 l0 x10_1).f0)) ∧ w'.cell? ⟨gb172, 1, none⟩ = some (.int .i64 ((rd_T87 l0 x10_1).f1)) ∧ w'.cell? ⟨gb172, 2, none⟩ = some (.int .i64 ((rd_T87 l0 x10_1).f2))) ∧ (Kd.R k87 87 w' w.heap.size (fun k_ => some k_ ≠ (s_.2.2 : Value).ownBlock ∧ some k_ ≠ (.slice Ao7 x3_1.length co7 : Value).ownBlock ∧ k_ ≠ gb172) s_.2.1 y205) ∧ (Kd.R k87 87 w' w.heap.size (fun k_ => some k_ ≠ (s_.2.1 : Value).ownBlock ∧ some k_ ≠ (.slice Ao7 x3_1.length co7 : Value).ownBlock ∧ k_ ≠ gb172) s_.2.2 y208) ∧ (Kd.R k87 87 w' w.heap.size (fun k_ => some k_ ≠ (s_.2.1 : Value).ownBlock ∧ some k_ ≠ (s_.2.2 : Value).ownBlock ∧ k_ ≠ gb172) (.slice Ao7 x3_1.length co7) x3_1) ∧ (w'.heap[gb172]? = some (.cells #[.int .i64 ((rd_T87 l0 x10_1).f0), .int .i64 ((rd_T87 l0 x10_1).f1), .int .i64 ((rd_T87 l0 x10_1).f2)] 87 (0, 0))) ∧ (Below w.heap.size w w')) ?_ ?_; rotate_left
     ·
      intro hCont
      refine two_ (i := 0) (j := 6) (Ni := some 29) (Nj := some 35) #[true, true, true, true, false, true, false, false, false] #[false, true, true, true, false, true, true, false, false] rfl rfl rfl rfl (two_of HT_.out (by kernel_rfl)) (by decide) (by decide) (fun K hK => ?_) (fun K hK => ?_)
      ·
       refine Kd.R_lit_step k87 _ 87 ?hg (N := 29) ?hd (xs := ([] : List (S87))) (inner := []) (ok := fun _ => True) (okp := fun _ => True) ?hr ?hp (fun _ hk => hk) trivial (Below.refl _ _) (Nat.le_refl _) (by simp) ?_; (case hd => rfl); (case hg => rfl); (case hr => first | (go_simp; done) | (go_simp; rfl)); (case hp => exact (Reps.none _ _))
       intro v199 w47 ho48 hb hg_ hnew_; clear hg_ hnew_
       (first | rw [← Ny198.out] at ho48 | (simp only [Int.reduceToNat] at ho48; rw [← Ny198.out] at ho48))
       have HO200 := As_ (Kd.R_lower (Kd.R_newB (Kd.R_new' ho48 (Kd.R_lt (by (with_reducible repeat (first | apply Kd.R_alloc | apply Kd.R_drewN | apply Kd.R_drew)); exact HO_3.out))) (g := gb172) (o := .cells #[.int .i64 ((rd_T87 l0 x10_1).f0), .int .i64 ((rd_T87 l0 x10_1).f1), .int .i64 ((rd_T87 l0 x10_1).f2)] 87 (0, 0)) BK172.out) (below_size (by repeat (first | (with_reducible first | exact HB.out | apply ba_ | apply bn_ | apply bd_ | refine bs_ ?_ GE172.out) | exact HB.out))))
       replace HO_3 := As_ (Kd.R_elder' (by (with_reducible repeat (first | apply Kd.R_alloc | apply Kd.R_drewN | apply Kd.R_drew)); exact HO_3.out) (Kd.R_base ho48) hb)
       replace BK172 := As_ (blk_b hb BK172.out)
       replace HR204 := As_ (Kd.C_below (by repeat (first | (with_reducible exact HR204.out) | (with_reducible refine Kd.C_alloc ?_ _) | (with_reducible refine Kd.C_drewN ?_ _) | (with_reducible refine Kd.C_drew ?_) | exact HR204.out)) hb)
       replace HB := As_ (below_step (by repeat (first | (with_reducible first | exact HB.out | apply ba_ | apply bn_ | apply bd_ | refine bs_ ?_ GE172.out) | exact HB.out)) hb); clear hb ho48
       refine hK.out _ _ ⟨(blk_cell BK172.out 0).trans rfl, (blk_cell BK172.out 1).trans rfl, (blk_cell BK172.out 2).trans rfl⟩ (fun hHeld => ?_); clear hK K
       refine norm_ (a' := ?_) ?_ ?_; rotate_left
       ·
        show Act.put _ (some 29) _ = _
        simp only [Act.put, sib_, sc0_, sc1_, i64_w, i32_w]
        rfl
       refine two_ (i := 4) (j := 6) (Ni := some 33) (Nj := some 35) #[true, true, true, true, true, true, false, false, false] #[true, true, true, true, false, true, true, false, false] rfl rfl rfl rfl (two_of HT_.out (by kernel_rfl)) (by decide) (by decide) (fun K hK => ?_) (fun K hK => ?_)
       ·
        refine Kd.R_append_rows_step k87 (w0 := w) w.heap.size (by rfl) (.tmp 29) (.tmp 32) 29 87 (.agg #[(.int .i64 0), (.int .i64 0), (.int .i64 0)]) 24 rfl Try.underlying29 info87 rfl (by decide) (by omega) v199 y198 y201 _ _ _ (fun k_ => some k_ ≠ (.slice Ao7 x3_1.length co7 : Value).ownBlock ∧ k_ ≠ gb172) (fun _ => False) rfl rfl ?aO ?aR (fun _ _ h => h) (fun _ h => h.elim) ?aF ?aB ?aS ?aL ?_
        (case aR => repeat (first | exact (by repeat (first | (with_reducible exact HR204.out) | (with_reducible refine Kd.C_alloc ?_ _) | (with_reducible refine Kd.C_drewN ?_ _) | (with_reducible refine Kd.C_drew ?_) | exact HR204.out)) | (with_reducible refine Kd.C_alloc ?_ _) | (with_reducible refine Kd.C_drewN ?_ _) | (with_reducible refine Kd.C_drew ?_)))
        (case aB => exact (by repeat (first | (with_reducible first | exact HB.out | apply ba_ | apply bn_ | apply bd_ | refine bs_ ?_ GE172.out) | exact HB.out)))
        (case aF => exact (fun k_ hk => ⟨Kd.fresh' (Kd.R_lt (by (with_reducible repeat (first | apply Kd.R_alloc | apply Kd.R_drewN | apply Kd.R_drew)); exact HO_3.out)) k_ hk, Kd.freshB (g := gb172) (o := .cells #[.int .i64 ((rd_T87 l0 x10_1).f0), .int .i64 ((rd_T87 l0 x10_1).f1), .int .i64 ((rd_T87 l0 x10_1).f2)] 87 (0, 0)) BK172.out k_ hk⟩))
        (case aO => exact (by (with_reducible repeat (first | apply Kd.R_alloc | apply Kd.R_drewN | apply Kd.R_drew)); exact Kd.R_mono HO200.out (fun _ hk => ⟨hk.1.2, hk.2⟩)))
        (case aS => exact (below_size (by repeat (first | (with_reducible first | exact HB.out | apply ba_ | apply bn_ | apply bd_ | refine bs_ ?_ GE172.out) | exact HB.out))))
        (case aL => have := LMc39.out; omega)
        intro v206 w49 ho hb hg hat
        rw [← Ny205.out] at ho
        have n0_ := As_ (Kd.R_after (ok := (fun k_ => k_ ≠ gb172)) (by (with_reducible repeat (first | apply Kd.R_alloc | apply Kd.R_drewN | apply Kd.R_drew)); exact HO_3.out) hg hat)
        have n1_ := As_ (blk_grown (g := gb172) (o := .cells #[.int .i64 ((rd_T87 l0 x10_1).f0), .int .i64 ((rd_T87 l0 x10_1).f1), .int .i64 ((rd_T87 l0 x10_1).f2)] 87 (0, 0)) BK172.out hg (Kd.R_away HO200.out (fun _ hk => hk.2)))
        have n2_ := As_ (hb)
        have n3_ := As_ ((show Kd.C k87 w49 Ao7 y201.length y201 from by rw [Ny201.out]; exact Kd.C_take (m := (x6_2 : Int).toNat) ((Kd.R_reads' (Kd.R_after (ok := (fun k_ => k_ ≠ gb172)) (by (with_reducible repeat (first | apply Kd.R_alloc | apply Kd.R_drewN | apply Kd.R_drew)); exact HO_3.out) hg hat)).2.2) KL46.out))
        have n4_ := As_ (ho)
        clear HO_3; clear BK172; clear HB; clear HR204; clear HO200
        have HO_3 := n0_
        have BK172 := n1_
        have HB := n2_
        have HR204 := n3_
        have HO207 := n4_
        clear n0_ n1_ n2_ n3_ n4_; clear ho hb hg hat
        refine hK.out _ _ ⟨(blk_cell BK172.out 0).trans rfl, (blk_cell BK172.out 1).trans rfl, (blk_cell BK172.out 2).trans rfl⟩ (fun hHeld => ?_); clear hK K
        refine norm_ (a' := ?_) ?_ ?_; rotate_left
        ·
         show Act.put _ (some 33) _ = _
         simp only [Act.put, sib_, sc0_, sc1_, i64_w, i32_w]
         rfl
        refine one_ (i := 6) (N := some 35) #[true, true, true, true, true, true, true, false, false] rfl rfl (one_of HT_.out (by kernel_rfl)) (by decide) (fun K hK => ?_)
        refine Kd.R_lit_step k87 _ 87 ?hg (N := 35) ?hd (xs := ([(⟨((rd_T87 l0 x10_1).f0), ((rd_T87 l0 x10_1).f1), ((rd_T87 l0 x10_1).f2)⟩ : S87)] : List (S87))) (inner := [.int .i64 ((rd_T87 l0 x10_1).f0), .int .i64 ((rd_T87 l0 x10_1).f1), .int .i64 ((rd_T87 l0 x10_1).f2)]) (ok := fun _ => True) (okp := fun _ => True) ?hr ?hp (fun _ hk => hk) trivial (Below.refl _ _) (Nat.le_refl _) (by simp) ?_; (case hd => rfl); (case hg => rfl); (case hr => first | (go_simp; done) | (go_simp; rfl)); (case hp => exact (Reps.c3 (show Kd.M k87 _ _ _ (⟨((rd_T87 l0 x10_1).f0), ((rd_T87 l0 x10_1).f1), ((rd_T87 l0 x10_1).f2)⟩ : S87) [.int .i64 ((rd_T87 l0 x10_1).f0), .int .i64 ((rd_T87 l0 x10_1).f1), .int .i64 ((rd_T87 l0 x10_1).f2)] from (k87_mkM _ _ _ (⟨((rd_T87 l0 x10_1).f0), ((rd_T87 l0 x10_1).f1), ((rd_T87 l0 x10_1).f2)⟩ : S87) )) (Reps.none _ _)))
        intro v209 w50 ho51 hb hg_ hnew_; clear hg_ hnew_
        (first | rw [← Ny208.out] at ho51 | (simp only [Int.reduceToNat] at ho51; rw [← Ny208.out] at ho51))
        have HO210 := As_ (Kd.R_lower (Kd.R_newB (Kd.R_new' (Kd.R_new' ho51 (Kd.R_lt (by (with_reducible repeat (first | apply Kd.R_alloc | apply Kd.R_drewN | apply Kd.R_drew)); exact HO_3.out))) (Kd.R_lt (by (with_reducible repeat (first | apply Kd.R_alloc | apply Kd.R_drewN | apply Kd.R_drew)); exact HO207.out))) (g := gb172) (o := .cells #[.int .i64 ((rd_T87 l0 x10_1).f0), .int .i64 ((rd_T87 l0 x10_1).f1), .int .i64 ((rd_T87 l0 x10_1).f2)] 87 (0, 0)) BK172.out) (below_size (by repeat (first | (with_reducible first | exact HB.out | apply ba_ | apply bn_ | apply bd_ | refine bs_ ?_ GE172.out) | exact HB.out))))
        replace HO_3 := As_ (Kd.R_elder' (by (with_reducible repeat (first | apply Kd.R_alloc | apply Kd.R_drewN | apply Kd.R_drew)); exact HO_3.out) (Kd.R_base ho51) hb)
        replace HO207 := As_ (Kd.R_elder' (by (with_reducible repeat (first | apply Kd.R_alloc | apply Kd.R_drewN | apply Kd.R_drew)); exact HO207.out) (Kd.R_base ho51) hb)
        replace BK172 := As_ (blk_b hb BK172.out)
        replace HR204 := As_ (Kd.C_below (by repeat (first | (with_reducible exact HR204.out) | (with_reducible refine Kd.C_alloc ?_ _) | (with_reducible refine Kd.C_drewN ?_ _) | (with_reducible refine Kd.C_drew ?_) | exact HR204.out)) hb)
        replace HB := As_ (below_step (by repeat (first | (with_reducible first | exact HB.out | apply ba_ | apply bn_ | apply bd_ | refine bs_ ?_ GE172.out) | exact HB.out)) hb); clear hb ho51
        refine hK.out _ _ ⟨(blk_cell BK172.out 0).trans rfl, (blk_cell BK172.out 1).trans rfl, (blk_cell BK172.out 2).trans rfl⟩ (fun hHeld => ?_); clear hK K
        refine norm_ (a' := ?_) ?_ ?_; rotate_left
        ·
         show Act.put _ (some 35) _ = _
         simp only [Act.put, sib_, sc0_, sc1_, i64_w, i32_w]
         rfl
        exact norm_ (by simp only [putAll, Act.put, sib_, sc0_, sc1_]) (hCont (v199, v206, v209) _ ⟨hHeld, (by (with_reducible repeat (first | apply Kd.R_alloc | apply Kd.R_drewN | apply Kd.R_drew)); exact Kd.R_mono HO207.out (fun _ hk => ⟨hk.2, ⟨hk.1.1, hk.1.2⟩⟩)), (by (with_reducible repeat (first | apply Kd.R_alloc | apply Kd.R_drewN | apply Kd.R_drew)); exact Kd.R_mono HO210.out (fun _ hk => ⟨hk.1.2, ⟨hk.1.1.2, hk.2⟩⟩)), (by (with_reducible repeat (first | apply Kd.R_alloc | apply Kd.R_drewN | apply Kd.R_drew)); exact Kd.R_mono HO_3.out (fun _ hk => ⟨hk.1.2, ⟨hk.2, hk.1.1⟩⟩)), BK172.out, (by repeat (first | (with_reducible first | exact HB.out | apply ba_ | apply bn_ | apply bd_ | refine bs_ ?_ GE172.out) | exact HB.out))⟩)
       ·
        refine Kd.R_lit_step k87 _ 87 ?hg (N := 35) ?hd (xs := ([(⟨((rd_T87 l0 x10_1).f0), ((rd_T87 l0 x10_1).f1), ((rd_T87 l0 x10_1).f2)⟩ : S87)] : List (S87))) (inner := [.int .i64 ((rd_T87 l0 x10_1).f0), .int .i64 ((rd_T87 l0 x10_1).f1), .int .i64 ((rd_T87 l0 x10_1).f2)]) (ok := fun _ => True) (okp := fun _ => True) ?hr ?hp (fun _ hk => hk) trivial (Below.refl _ _) (Nat.le_refl _) (by simp) ?_; (case hd => rfl); (case hg => rfl); (case hr => first | (go_simp; done) | (go_simp; rfl)); (case hp => exact (Reps.c3 (show Kd.M k87 _ _ _ (⟨((rd_T87 l0 x10_1).f0), ((rd_T87 l0 x10_1).f1), ((rd_T87 l0 x10_1).f2)⟩ : S87) [.int .i64 ((rd_T87 l0 x10_1).f0), .int .i64 ((rd_T87 l0 x10_1).f1), .int .i64 ((rd_T87 l0 x10_1).f2)] from (k87_mkM _ _ _ (⟨((rd_T87 l0 x10_1).f0), ((rd_T87 l0 x10_1).f1), ((rd_T87 l0 x10_1).f2)⟩ : S87) )) (Reps.none _ _)))
        intro v209 w49 ho50 hb hg_ hnew_; clear hg_ hnew_
        (first | rw [← Ny208.out] at ho50 | (simp only [Int.reduceToNat] at ho50; rw [← Ny208.out] at ho50))
        have HO210 := As_ (Kd.R_lower (Kd.R_newB (Kd.R_new' (Kd.R_new' ho50 (Kd.R_lt (by (with_reducible repeat (first | apply Kd.R_alloc | apply Kd.R_drewN | apply Kd.R_drew)); exact HO_3.out))) (Kd.R_lt (by (with_reducible repeat (first | apply Kd.R_alloc | apply Kd.R_drewN | apply Kd.R_drew)); exact HO200.out))) (g := gb172) (o := .cells #[.int .i64 ((rd_T87 l0 x10_1).f0), .int .i64 ((rd_T87 l0 x10_1).f1), .int .i64 ((rd_T87 l0 x10_1).f2)] 87 (0, 0)) BK172.out) (below_size (by repeat (first | (with_reducible first | exact HB.out | apply ba_ | apply bn_ | apply bd_ | refine bs_ ?_ GE172.out) | exact HB.out))))
        replace HO_3 := As_ (Kd.R_elder' (by (with_reducible repeat (first | apply Kd.R_alloc | apply Kd.R_drewN | apply Kd.R_drew)); exact HO_3.out) (Kd.R_base ho50) hb)
        replace HO200 := As_ (Kd.R_elder' (by (with_reducible repeat (first | apply Kd.R_alloc | apply Kd.R_drewN | apply Kd.R_drew)); exact HO200.out) (Kd.R_base ho50) hb)
        replace BK172 := As_ (blk_b hb BK172.out)
        replace HR204 := As_ (Kd.C_below (by repeat (first | (with_reducible exact HR204.out) | (with_reducible refine Kd.C_alloc ?_ _) | (with_reducible refine Kd.C_drewN ?_ _) | (with_reducible refine Kd.C_drew ?_) | exact HR204.out)) hb)
        replace HB := As_ (below_step (by repeat (first | (with_reducible first | exact HB.out | apply ba_ | apply bn_ | apply bd_ | refine bs_ ?_ GE172.out) | exact HB.out)) hb); clear hb ho50
        refine hK.out _ _ ⟨(blk_cell BK172.out 0).trans rfl, (blk_cell BK172.out 1).trans rfl, (blk_cell BK172.out 2).trans rfl⟩ (fun hHeld => ?_); clear hK K
        refine norm_ (a' := ?_) ?_ ?_; rotate_left
        ·
         show Act.put _ (some 35) _ = _
         simp only [Act.put, sib_, sc0_, sc1_, i64_w, i32_w]
         rfl
        refine one_ (i := 4) (N := some 33) #[true, true, true, true, true, true, true, false, false] rfl rfl (one_of HT_.out (by kernel_rfl)) (by decide) (fun K hK => ?_)
        refine Kd.R_append_rows_step k87 (w0 := w) w.heap.size (by rfl) (.tmp 29) (.tmp 32) 29 87 (.agg #[(.int .i64 0), (.int .i64 0), (.int .i64 0)]) 24 rfl Try.underlying29 info87 rfl (by decide) (by omega) v199 y198 y201 _ _ _ (fun k_ => some k_ ≠ (.slice Ao7 x3_1.length co7 : Value).ownBlock ∧ some k_ ≠ (v209 : Value).ownBlock ∧ k_ ≠ gb172) (fun _ => False) rfl rfl ?aO ?aR (fun _ _ h => h) (fun _ h => h.elim) ?aF ?aB ?aS ?aL ?_
        (case aR => repeat (first | exact (by repeat (first | (with_reducible exact HR204.out) | (with_reducible refine Kd.C_alloc ?_ _) | (with_reducible refine Kd.C_drewN ?_ _) | (with_reducible refine Kd.C_drew ?_) | exact HR204.out)) | (with_reducible refine Kd.C_alloc ?_ _) | (with_reducible refine Kd.C_drewN ?_ _) | (with_reducible refine Kd.C_drew ?_)))
        (case aB => exact (by repeat (first | (with_reducible first | exact HB.out | apply ba_ | apply bn_ | apply bd_ | refine bs_ ?_ GE172.out) | exact HB.out)))
        (case aF => exact (fun k_ hk => ⟨Kd.fresh' (Kd.R_lt (by (with_reducible repeat (first | apply Kd.R_alloc | apply Kd.R_drewN | apply Kd.R_drew)); exact HO_3.out)) k_ hk, Kd.fresh' (Kd.R_lt (by (with_reducible repeat (first | apply Kd.R_alloc | apply Kd.R_drewN | apply Kd.R_drew)); exact HO210.out)) k_ hk, Kd.freshB (g := gb172) (o := .cells #[.int .i64 ((rd_T87 l0 x10_1).f0), .int .i64 ((rd_T87 l0 x10_1).f1), .int .i64 ((rd_T87 l0 x10_1).f2)] 87 (0, 0)) BK172.out k_ hk⟩))
        (case aO => exact (by (with_reducible repeat (first | apply Kd.R_alloc | apply Kd.R_drewN | apply Kd.R_drew)); exact Kd.R_mono HO200.out (fun _ hk => ⟨hk.1.1.2, ⟨hk.2, hk.1.2⟩⟩)))
        (case aS => exact (below_size (by repeat (first | (with_reducible first | exact HB.out | apply ba_ | apply bn_ | apply bd_ | refine bs_ ?_ GE172.out) | exact HB.out))))
        (case aL => have := LMc39.out; omega)
        intro v206 w51 ho hb hg hat
        rw [← Ny205.out] at ho
        have n0_ := As_ (Kd.R_after (ok := (fun k_ => some k_ ≠ (v209 : Value).ownBlock ∧ k_ ≠ gb172)) (by (with_reducible repeat (first | apply Kd.R_alloc | apply Kd.R_drewN | apply Kd.R_drew)); exact Kd.R_mono HO_3.out (fun _ hk => ⟨⟨hk.2, hk.1.1⟩, hk.1.2⟩)) hg hat)
        have n1_ := As_ (blk_grown (g := gb172) (o := .cells #[.int .i64 ((rd_T87 l0 x10_1).f0), .int .i64 ((rd_T87 l0 x10_1).f1), .int .i64 ((rd_T87 l0 x10_1).f2)] 87 (0, 0)) BK172.out hg (Kd.R_away HO200.out (fun _ hk => hk.1.2)))
        have n2_ := As_ (Kd.R_after (ok := (fun k_ => some k_ ≠ (.slice Ao7 x3_1.length co7 : Value).ownBlock ∧ k_ ≠ gb172)) (by (with_reducible repeat (first | apply Kd.R_alloc | apply Kd.R_drewN | apply Kd.R_drew)); exact Kd.R_mono HO210.out (fun _ hk => ⟨⟨hk.1.1.2, hk.2⟩, hk.1.2⟩)) hg hat)
        have n3_ := As_ (hb)
        have n4_ := As_ ((show Kd.C k87 w51 Ao7 y201.length y201 from by rw [Ny201.out]; exact Kd.C_take (m := (x6_2 : Int).toNat) ((Kd.R_reads' (Kd.R_after (ok := (fun k_ => some k_ ≠ (v209 : Value).ownBlock ∧ k_ ≠ gb172)) (by (with_reducible repeat (first | apply Kd.R_alloc | apply Kd.R_drewN | apply Kd.R_drew)); exact Kd.R_mono HO_3.out (fun _ hk => ⟨⟨hk.2, hk.1.1⟩, hk.1.2⟩)) hg hat)).2.2) KL46.out))
        have n5_ := As_ (ho)
        clear HO_3; clear BK172; clear HO210; clear HB; clear HR204; clear HO200
        have HO_3 := n0_
        have BK172 := n1_
        have HO210 := n2_
        have HB := n3_
        have HR204 := n4_
        have HO207 := n5_
        clear n0_ n1_ n2_ n3_ n4_ n5_; clear ho hb hg hat
        refine hK.out _ _ ⟨(blk_cell BK172.out 0).trans rfl, (blk_cell BK172.out 1).trans rfl, (blk_cell BK172.out 2).trans rfl⟩ (fun hHeld => ?_); clear hK K
        refine norm_ (a' := ?_) ?_ ?_; rotate_left
        ·
         show Act.put _ (some 33) _ = _
         simp only [Act.put, sib_, sc0_, sc1_, i64_w, i32_w]
         rfl
        exact norm_ (by simp only [putAll, Act.put, sib_, sc0_, sc1_]) (hCont (v199, v206, v209) _ ⟨hHeld, (by (with_reducible repeat (first | apply Kd.R_alloc | apply Kd.R_drewN | apply Kd.R_drew)); exact Kd.R_mono HO207.out (fun _ hk => ⟨hk.2.1, ⟨hk.1, hk.2.2⟩⟩)), (by (with_reducible repeat (first | apply Kd.R_alloc | apply Kd.R_drewN | apply Kd.R_drew)); exact Kd.R_mono HO210.out (fun _ hk => ⟨hk.2, ⟨hk.1.1, hk.1.2⟩⟩)), (by (with_reducible repeat (first | apply Kd.R_alloc | apply Kd.R_drewN | apply Kd.R_drew)); exact Kd.R_mono HO_3.out (fun _ hk => ⟨hk.2, ⟨hk.1.1, hk.1.2⟩⟩)), BK172.out, (by repeat (first | (with_reducible first | exact HB.out | apply ba_ | apply bn_ | apply bd_ | refine bs_ ?_ GE172.out) | exact HB.out))⟩)
      ·
       refine Kd.R_lit_step k87 _ 87 ?hg (N := 35) ?hd (xs := ([(⟨((rd_T87 l0 x10_1).f0), ((rd_T87 l0 x10_1).f1), ((rd_T87 l0 x10_1).f2)⟩ : S87)] : List (S87))) (inner := [.int .i64 ((rd_T87 l0 x10_1).f0), .int .i64 ((rd_T87 l0 x10_1).f1), .int .i64 ((rd_T87 l0 x10_1).f2)]) (ok := fun _ => True) (okp := fun _ => True) ?hr ?hp (fun _ hk => hk) trivial (Below.refl _ _) (Nat.le_refl _) (by simp) ?_; (case hd => rfl); (case hg => rfl); (case hr => first | (go_simp; done) | (go_simp; rfl)); (case hp => exact (Reps.c3 (show Kd.M k87 _ _ _ (⟨((rd_T87 l0 x10_1).f0), ((rd_T87 l0 x10_1).f1), ((rd_T87 l0 x10_1).f2)⟩ : S87) [.int .i64 ((rd_T87 l0 x10_1).f0), .int .i64 ((rd_T87 l0 x10_1).f1), .int .i64 ((rd_T87 l0 x10_1).f2)] from (k87_mkM _ _ _ (⟨((rd_T87 l0 x10_1).f0), ((rd_T87 l0 x10_1).f1), ((rd_T87 l0 x10_1).f2)⟩ : S87) )) (Reps.none _ _)))
       intro v209 w47 ho48 hb hg_ hnew_; clear hg_ hnew_
       (first | rw [← Ny208.out] at ho48 | (simp only [Int.reduceToNat] at ho48; rw [← Ny208.out] at ho48))
       have HO210 := As_ (Kd.R_lower (Kd.R_newB (Kd.R_new' ho48 (Kd.R_lt (by (with_reducible repeat (first | apply Kd.R_alloc | apply Kd.R_drewN | apply Kd.R_drew)); exact HO_3.out))) (g := gb172) (o := .cells #[.int .i64 ((rd_T87 l0 x10_1).f0), .int .i64 ((rd_T87 l0 x10_1).f1), .int .i64 ((rd_T87 l0 x10_1).f2)] 87 (0, 0)) BK172.out) (below_size (by repeat (first | (with_reducible first | exact HB.out | apply ba_ | apply bn_ | apply bd_ | refine bs_ ?_ GE172.out) | exact HB.out))))
       replace HO_3 := As_ (Kd.R_elder' (by (with_reducible repeat (first | apply Kd.R_alloc | apply Kd.R_drewN | apply Kd.R_drew)); exact HO_3.out) (Kd.R_base ho48) hb)
       replace BK172 := As_ (blk_b hb BK172.out)
       replace HR204 := As_ (Kd.C_below (by repeat (first | (with_reducible exact HR204.out) | (with_reducible refine Kd.C_alloc ?_ _) | (with_reducible refine Kd.C_drewN ?_ _) | (with_reducible refine Kd.C_drew ?_) | exact HR204.out)) hb)
       replace HB := As_ (below_step (by repeat (first | (with_reducible first | exact HB.out | apply ba_ | apply bn_ | apply bd_ | refine bs_ ?_ GE172.out) | exact HB.out)) hb); clear hb ho48
       refine hK.out _ _ ⟨(blk_cell BK172.out 0).trans rfl, (blk_cell BK172.out 1).trans rfl, (blk_cell BK172.out 2).trans rfl⟩ (fun hHeld => ?_); clear hK K
       refine norm_ (a' := ?_) ?_ ?_; rotate_left
       ·
        show Act.put _ (some 35) _ = _
        simp only [Act.put, sib_, sc0_, sc1_, i64_w, i32_w]
        rfl
       refine one_ (i := 0) (N := some 29) #[true, true, true, true, false, true, true, false, false] rfl rfl (one_of HT_.out (by kernel_rfl)) (by decide) (fun K hK => ?_)
       refine Kd.R_lit_step k87 _ 87 ?hg (N := 29) ?hd (xs := ([] : List (S87))) (inner := []) (ok := fun _ => True) (okp := fun _ => True) ?hr ?hp (fun _ hk => hk) trivial (Below.refl _ _) (Nat.le_refl _) (by simp) ?_; (case hd => rfl); (case hg => rfl); (case hr => first | (go_simp; done) | (go_simp; rfl)); (case hp => exact (Reps.none _ _))
       intro v199 w49 ho50 hb hg_ hnew_; clear hg_ hnew_
       (first | rw [← Ny198.out] at ho50 | (simp only [Int.reduceToNat] at ho50; rw [← Ny198.out] at ho50))
       have HO200 := As_ (Kd.R_lower (Kd.R_newB (Kd.R_new' (Kd.R_new' ho50 (Kd.R_lt (by (with_reducible repeat (first | apply Kd.R_alloc | apply Kd.R_drewN | apply Kd.R_drew)); exact HO_3.out))) (Kd.R_lt (by (with_reducible repeat (first | apply Kd.R_alloc | apply Kd.R_drewN | apply Kd.R_drew)); exact HO210.out))) (g := gb172) (o := .cells #[.int .i64 ((rd_T87 l0 x10_1).f0), .int .i64 ((rd_T87 l0 x10_1).f1), .int .i64 ((rd_T87 l0 x10_1).f2)] 87 (0, 0)) BK172.out) (below_size (by repeat (first | (with_reducible first | exact HB.out | apply ba_ | apply bn_ | apply bd_ | refine bs_ ?_ GE172.out) | exact HB.out))))
       replace HO_3 := As_ (Kd.R_elder' (by (with_reducible repeat (first | apply Kd.R_alloc | apply Kd.R_drewN | apply Kd.R_drew)); exact HO_3.out) (Kd.R_base ho50) hb)
       replace HO210 := As_ (Kd.R_elder' (by (with_reducible repeat (first | apply Kd.R_alloc | apply Kd.R_drewN | apply Kd.R_drew)); exact HO210.out) (Kd.R_base ho50) hb)
       replace BK172 := As_ (blk_b hb BK172.out)
       replace HR204 := As_ (Kd.C_below (by repeat (first | (with_reducible exact HR204.out) | (with_reducible refine Kd.C_alloc ?_ _) | (with_reducible refine Kd.C_drewN ?_ _) | (with_reducible refine Kd.C_drew ?_) | exact HR204.out)) hb)
       replace HB := As_ (below_step (by repeat (first | (with_reducible first | exact HB.out | apply ba_ | apply bn_ | apply bd_ | refine bs_ ?_ GE172.out) | exact HB.out)) hb); clear hb ho50
       refine hK.out _ _ ⟨(blk_cell BK172.out 0).trans rfl, (blk_cell BK172.out 1).trans rfl, (blk_cell BK172.out 2).trans rfl⟩ (fun hHeld => ?_); clear hK K
       refine norm_ (a' := ?_) ?_ ?_; rotate_left
       ·
        show Act.put _ (some 29) _ = _
        simp only [Act.put, sib_, sc0_, sc1_, i64_w, i32_w]
        rfl
       refine one_ (i := 4) (N := some 33) #[true, true, true, true, true, true, true, false, false] rfl rfl (one_of HT_.out (by kernel_rfl)) (by decide) (fun K hK => ?_)
       refine Kd.R_append_rows_step k87 (w0 := w) w.heap.size (by rfl) (.tmp 29) (.tmp 32) 29 87 (.agg #[(.int .i64 0), (.int .i64 0), (.int .i64 0)]) 24 rfl Try.underlying29 info87 rfl (by decide) (by omega) v199 y198 y201 _ _ _ (fun k_ => some k_ ≠ (.slice Ao7 x3_1.length co7 : Value).ownBlock ∧ some k_ ≠ (v209 : Value).ownBlock ∧ k_ ≠ gb172) (fun _ => False) rfl rfl ?aO ?aR (fun _ _ h => h) (fun _ h => h.elim) ?aF ?aB ?aS ?aL ?_
       (case aR => repeat (first | exact (by repeat (first | (with_reducible exact HR204.out) | (with_reducible refine Kd.C_alloc ?_ _) | (with_reducible refine Kd.C_drewN ?_ _) | (with_reducible refine Kd.C_drew ?_) | exact HR204.out)) | (with_reducible refine Kd.C_alloc ?_ _) | (with_reducible refine Kd.C_drewN ?_ _) | (with_reducible refine Kd.C_drew ?_)))
       (case aB => exact (by repeat (first | (with_reducible first | exact HB.out | apply ba_ | apply bn_ | apply bd_ | refine bs_ ?_ GE172.out) | exact HB.out)))
       (case aF => exact (fun k_ hk => ⟨Kd.fresh' (Kd.R_lt (by (with_reducible repeat (first | apply Kd.R_alloc | apply Kd.R_drewN | apply Kd.R_drew)); exact HO_3.out)) k_ hk, Kd.fresh' (Kd.R_lt (by (with_reducible repeat (first | apply Kd.R_alloc | apply Kd.R_drewN | apply Kd.R_drew)); exact HO210.out)) k_ hk, Kd.freshB (g := gb172) (o := .cells #[.int .i64 ((rd_T87 l0 x10_1).f0), .int .i64 ((rd_T87 l0 x10_1).f1), .int .i64 ((rd_T87 l0 x10_1).f2)] 87 (0, 0)) BK172.out k_ hk⟩))
       (case aO => exact (by (with_reducible repeat (first | apply Kd.R_alloc | apply Kd.R_drewN | apply Kd.R_drew)); exact Kd.R_mono HO200.out (fun _ hk => ⟨hk.1.1.2, ⟨hk.1.2, hk.2⟩⟩)))
       (case aS => exact (below_size (by repeat (first | (with_reducible first | exact HB.out | apply ba_ | apply bn_ | apply bd_ | refine bs_ ?_ GE172.out) | exact HB.out))))
       (case aL => have := LMc39.out; omega)
       intro v206 w51 ho hb hg hat
       rw [← Ny205.out] at ho
       have n0_ := As_ (Kd.R_after (ok := (fun k_ => some k_ ≠ (v209 : Value).ownBlock ∧ k_ ≠ gb172)) (by (with_reducible repeat (first | apply Kd.R_alloc | apply Kd.R_drewN | apply Kd.R_drew)); exact Kd.R_mono HO_3.out (fun _ hk => ⟨⟨hk.1.2, hk.1.1⟩, hk.2⟩)) hg hat)
       have n1_ := As_ (blk_grown (g := gb172) (o := .cells #[.int .i64 ((rd_T87 l0 x10_1).f0), .int .i64 ((rd_T87 l0 x10_1).f1), .int .i64 ((rd_T87 l0 x10_1).f2)] 87 (0, 0)) BK172.out hg (Kd.R_away HO200.out (fun _ hk => hk.2)))
       have n2_ := As_ (Kd.R_after (ok := (fun k_ => some k_ ≠ (.slice Ao7 x3_1.length co7 : Value).ownBlock ∧ k_ ≠ gb172)) (by (with_reducible repeat (first | apply Kd.R_alloc | apply Kd.R_drewN | apply Kd.R_drew)); exact Kd.R_mono HO210.out (fun _ hk => ⟨⟨hk.1.1.2, hk.1.2⟩, hk.2⟩)) hg hat)
       have n3_ := As_ (hb)
       have n4_ := As_ ((show Kd.C k87 w51 Ao7 y201.length y201 from by rw [Ny201.out]; exact Kd.C_take (m := (x6_2 : Int).toNat) ((Kd.R_reads' (Kd.R_after (ok := (fun k_ => some k_ ≠ (v209 : Value).ownBlock ∧ k_ ≠ gb172)) (by (with_reducible repeat (first | apply Kd.R_alloc | apply Kd.R_drewN | apply Kd.R_drew)); exact Kd.R_mono HO_3.out (fun _ hk => ⟨⟨hk.1.2, hk.1.1⟩, hk.2⟩)) hg hat)).2.2) KL46.out))
       have n5_ := As_ (ho)
       clear HO_3; clear BK172; clear HO210; clear HB; clear HR204; clear HO200
       have HO_3 := n0_
       have BK172 := n1_
       have HO210 := n2_
       have HB := n3_
       have HR204 := n4_
       have HO207 := n5_
       clear n0_ n1_ n2_ n3_ n4_ n5_; clear ho hb hg hat
       refine hK.out _ _ ⟨(blk_cell BK172.out 0).trans rfl, (blk_cell BK172.out 1).trans rfl, (blk_cell BK172.out 2).trans rfl⟩ (fun hHeld => ?_); clear hK K
       refine norm_ (a' := ?_) ?_ ?_; rotate_left
       ·
        show Act.put _ (some 33) _ = _
        simp only [Act.put, sib_, sc0_, sc1_, i64_w, i32_w]
        rfl
       exact norm_ (by simp only [putAll, Act.put, sib_, sc0_, sc1_]) (hCont (v199, v206, v209) _ ⟨hHeld, (by (with_reducible repeat (first | apply Kd.R_alloc | apply Kd.R_drewN | apply Kd.R_drew)); exact Kd.R_mono HO207.out (fun _ hk => ⟨hk.2.1, ⟨hk.1, hk.2.2⟩⟩)), (by (with_reducible repeat (first | apply Kd.R_alloc | apply Kd.R_drewN | apply Kd.R_drew)); exact Kd.R_mono HO210.out (fun _ hk => ⟨hk.2, ⟨hk.1.1, hk.1.2⟩⟩)), (by (with_reducible repeat (first | apply Kd.R_alloc | apply Kd.R_drewN | apply Kd.R_drew)); exact Kd.R_mono HO_3.out (fun _ hk => ⟨hk.2, ⟨hk.1.1, hk.1.2⟩⟩)), BK172.out, (by repeat (first | (with_reducible first | exact HB.out | apply ba_ | apply bn_ | apply bd_ | refine bs_ ?_ GE172.out) | exact HB.out))⟩)
     rintro ⟨v199, v206, v209⟩ w52 ⟨hS_, h0_, h1_, h2_, h3_, h4_⟩
     have n0_ : Aside0 (Kd.R k87 87 w52 w.heap.size (fun k_ => some k_ ≠ (v209 : Value).ownBlock ∧ some k_ ≠ (.slice Ao7 x3_1.length co7 : Value).ownBlock ∧ k_ ≠ gb172) v206 y205) := ⟨h0_⟩
     have n1_ : Aside0 (Kd.R k87 87 w52 w.heap.size (fun k_ => some k_ ≠ (v206 : Value).ownBlock ∧ some k_ ≠ (.slice Ao7 x3_1.length co7 : Value).ownBlock ∧ k_ ≠ gb172) v209 y208) := ⟨h1_⟩
     have n2_ : Aside0 (Kd.R k87 87 w52 w.heap.size (fun k_ => some k_ ≠ (v206 : Value).ownBlock ∧ some k_ ≠ (v209 : Value).ownBlock ∧ k_ ≠ gb172) (.slice Ao7 x3_1.length co7) x3_1) := ⟨h2_⟩
     have n3_ : Aside0 (w52.heap[gb172]? = some (.cells #[.int .i64 ((rd_T87 l0 x10_1).f0), .int .i64 ((rd_T87 l0 x10_1).f1), .int .i64 ((rd_T87 l0 x10_1).f2)] 87 (0, 0))) := ⟨h3_⟩
     have n4_ : Aside0 (Below w.heap.size w w52) := ⟨h4_⟩
     clear HO_3; clear BK172; clear HB; clear h0_ h1_ h2_ h3_ h4_
     have HO207 := n0_
     have HO210 := n1_
     have HO_3 := n2_
     have BK172 := n3_
     have HB := n4_
     clear n0_ n1_ n2_ n3_ n4_
     have hHeld : w52.cell? ⟨gb172, 0, none⟩ = some (.int .i64 ((rd_T87 l0 x10_1).f0)) ∧ w52.cell? ⟨gb172, 1, none⟩ = some (.int .i64 ((rd_T87 l0 x10_1).f1)) ∧ w52.cell? ⟨gb172, 2, none⟩ = some (.int .i64 ((rd_T87 l0 x10_1).f2)) := hS_
     obtain ⟨Ao54, co54, eo54⟩ := Kd.R_slice HO210.out
     (first | subst eo54 | (injection eo54 with f1_ f2_ f3_; have f4_ := f1_.symm; have f5_ := f3_.symm; clear f1_ f2_ f3_; subst f4_; subst f5_))
     refine norm_ (a' := ?_) ?_ ?_; rotate_left
     · simp only [putAll, Act.put, sib_, sc0_, sc1_]; rfl
     refine one_ (i := 7) (N := some 36) #[true, true, true, true, true, true, true, true, false] rfl rfl (one_of HT_.out (by kernel_rfl)) (by decide) (fun K hK => ?_)
     refine Kd.R_append_rows_step k87 (w0 := w) w.heap.size (by rfl) (.tmp 33) (.tmp 35) 29 87 (.agg #[(.int .i64 0), (.int .i64 0), (.int .i64 0)]) 24 rfl Try.underlying29 info87 rfl (by decide) (by omega) v206 y205 y208 _ _ _ (fun k_ => some k_ ≠ (.slice Ao7 x3_1.length co7 : Value).ownBlock ∧ some k_ ≠ (.slice Ao54 y208.length co54 : Value).ownBlock ∧ k_ ≠ gb172) (fun _ => False) rfl rfl ?aO ?aR (fun _ _ h => h) (fun _ h => h.elim) ?aF ?aB ?aS ?aL ?_
     (case aR => repeat (first | exact (Kd.R_reads' HO210.out).2.2 | (with_reducible refine Kd.C_alloc ?_ _) | (with_reducible refine Kd.C_drewN ?_ _) | (with_reducible refine Kd.C_drew ?_)))
     (case aB => exact (by repeat (first | (with_reducible first | exact HB.out | apply ba_ | apply bn_ | apply bd_ | refine bs_ ?_ GE172.out) | exact HB.out)))
     (case aF => exact (fun k_ hk => ⟨Kd.fresh' (Kd.R_lt (by (with_reducible repeat (first | apply Kd.R_alloc | apply Kd.R_drewN | apply Kd.R_drew)); exact HO_3.out)) k_ hk, Kd.fresh' (Kd.R_lt (by (with_reducible repeat (first | apply Kd.R_alloc | apply Kd.R_drewN | apply Kd.R_drew)); exact HO210.out)) k_ hk, Kd.freshB (g := gb172) (o := .cells #[.int .i64 ((rd_T87 l0 x10_1).f0), .int .i64 ((rd_T87 l0 x10_1).f1), .int .i64 ((rd_T87 l0 x10_1).f2)] 87 (0, 0)) BK172.out k_ hk⟩))
     (case aO => exact (by (with_reducible repeat (first | apply Kd.R_alloc | apply Kd.R_drewN | apply Kd.R_drew)); exact Kd.R_mono HO207.out (fun _ hk => ⟨hk.2.1, ⟨hk.1, hk.2.2⟩⟩)))
     (case aS => exact (below_size (by repeat (first | (with_reducible first | exact HB.out | apply ba_ | apply bn_ | apply bd_ | refine bs_ ?_ GE172.out) | exact HB.out))))
     (case aL => have := LMc40.out; omega)
     intro v212 w53 ho hb hg hat
     rw [← Ny211.out] at ho
     have n0_ := As_ (Kd.R_after (ok := (fun k_ => some k_ ≠ (.slice Ao54 y208.length co54 : Value).ownBlock ∧ k_ ≠ gb172)) (by (with_reducible repeat (first | apply Kd.R_alloc | apply Kd.R_drewN | apply Kd.R_drew)); exact Kd.R_mono HO_3.out (fun _ hk => ⟨⟨hk.2.1, hk.2.2⟩, hk.1⟩)) hg hat)
     have n1_ := As_ (blk_grown (g := gb172) (o := .cells #[.int .i64 ((rd_T87 l0 x10_1).f0), .int .i64 ((rd_T87 l0 x10_1).f1), .int .i64 ((rd_T87 l0 x10_1).f2)] 87 (0, 0)) BK172.out hg (Kd.R_away HO207.out (fun _ hk => hk.2.2)))
     have n2_ := As_ (Kd.R_after (ok := (fun k_ => some k_ ≠ (.slice Ao7 x3_1.length co7 : Value).ownBlock ∧ k_ ≠ gb172)) (by (with_reducible repeat (first | apply Kd.R_alloc | apply Kd.R_drewN | apply Kd.R_drew)); exact Kd.R_mono HO210.out (fun _ hk => ⟨⟨hk.2.1, hk.2.2⟩, hk.1⟩)) hg hat)
     have n3_ := As_ (hb)
     have n4_ := As_ (ho)
     clear HO_3; clear BK172; clear HO210; clear HB; clear HO207
     have HO_3 := n0_
     have BK172 := n1_
     have HO210 := n2_
     have HB := n3_
     have HO213 := n4_
     clear n0_ n1_ n2_ n3_ n4_; clear ho hb hg hat
     refine hK.out _ _ ⟨(blk_cell BK172.out 0).trans rfl, (blk_cell BK172.out 1).trans rfl, (blk_cell BK172.out 2).trans rfl⟩ (fun hHeld => ?_); clear hK K
     refine norm_ (a' := ?_) ?_ ?_; rotate_left
     ·
      show Act.put _ (some 36) _ = _
      simp only [Act.put, sib_, sc0_, sc1_, i64_w, i32_w]
      rfl
     refine pu_ (v := ?_) (a' := ?_) 8 (some 7) #[true, true, true, true, true, true, true, true, true] rfl rfl (any_of HT_.out (by kernel_rfl)) (fun _ _ _ h => h) (.inl ⟨by rfl, ?_⟩) ?_ ?_; rotate_left
     · intro w'; go_simp; with_reducible rfl
     rotate_left
     · simp only [Act.put, sib_, sc0_, sc1_, i64_w, i32_w]; rfl
     refine done_ (done_of HT_.out (by kernel_rfl)) ?_
     have q55 : (x6_2 : Int) ≤ ((x3_1.length : Int) : Int) := of_decide_eq_true (by first | (with_reducible assumption) | assumption)
     obtain ⟨i055, hi055, _, hsz55, _⟩ := info_parts info87
     have hroom55 : x3_1.length ≤ co7 := (Kd.R_reads' HO_3.out).2.1
     have hC55 : Kd.C k87 _ Ao7 x3_1.length x3_1 := (Kd.R_reads' HO_3.out).2.2
     have q055 : (0 : Int) ≤ (x6_2 : Int) := of_decide_eq_true (by first | (with_reducible assumption) | assumption)
     have hcut55 := cut_from (P := Try.prog) 29 87 .i64 Try.underlying29 hi055 3 hsz55 Ao7 x3_1.length co7 x6_2 q055 q55
     have hr55 := Kd.C_drop (m := (x6_2 : Int).toNat) (c := co7) hC55 (by omega) hroom55
     obtain ⟨A55, hA55⟩ : ∃ A1, A1 = (if co7 = (x6_2 : Int).toNat then Ao7 else (Ao7 : Option Addr).map (·.add ((x6_2 : Int).toNat * 3))) := ⟨_, rfl⟩
     obtain ⟨c55, hc55⟩ : ∃ c1, c1 = co7 - (x6_2 : Int).toNat := ⟨_, rfl⟩
     have hy55 : y214.length = x3_1.length - (x6_2 : Int).toNat := (by rw [Ny214.out, List.length_drop] <;> omega)
     rw [show (x3_1).drop (x6_2 : Int).toNat = y214 from Ny214.out.symm] at hr55
     replace hr55 : Kd.C k87 _ A55 y214.length y214 := (by rw [hA55]; exact hr55)
     rw [← hy55, ← hA55, ← hc55] at hcut55
     have HR217 := As_ hr55
     have HC217 := As_ (show y214.length ≤ c55 from by rw [hy55, hc55]; exact Nat.sub_le_sub_right hroom55 _)
     clear hr55 hC55 hroom55 hi055 hsz55 hc55
     have KY55 := As_ hy55
     have KA55 := As_ hA55
     clear hy55 hA55
     have KL55 := As_ (show (x6_2 : Int).toNat ≤ x3_1.length from by omega)
     replace q55 := eq_true q55
     try go_wp2_with (first | ((with_reducible refine gate_builtin (b := .append) (xs := #[.tmp 37, .tmp 40]) rfl ?_); at_builtin; refine Kd.R_append_rows k87 (w0 := w) w.heap.size rfl (.tmp 37) (.tmp 40) 29 87 (.agg #[(.int .i64 0), (.int .i64 0), (.int .i64 0)]) 24 rfl Try.underlying29 info87 rfl (by decide) (by omega) v212 y211 y214 _ _ _ (fun k_ => some k_ ≠ (.slice Ao7 x3_1.length co7 : Value).ownBlock ∧ some k_ ≠ (.slice Ao54 y208.length co54 : Value).ownBlock ∧ k_ ≠ gb172) (fun _ => False) rfl rfl ?aO ?aR (fun _ _ h => h) (fun _ h => h.elim) ?aF ?aB ?aS ?aL ?_; (case aR => repeat (first | exact (by repeat (first | (with_reducible exact HR217.out) | (with_reducible refine Kd.C_alloc ?_ _) | (with_reducible refine Kd.C_drewN ?_ _) | (with_reducible refine Kd.C_drew ?_) | exact HR217.out)) | (with_reducible refine Kd.C_alloc ?_ _) | (with_reducible refine Kd.C_drewN ?_ _) | (with_reducible refine Kd.C_drew ?_))); (case aB => exact (by repeat (first | (with_reducible first | exact HB.out | apply ba_ | apply bn_ | apply bd_ | refine bs_ ?_ GE172.out) | exact HB.out))); (case aF => exact (fun k_ hk => ⟨Kd.fresh' (Kd.R_lt (by (with_reducible repeat (first | apply Kd.R_alloc | apply Kd.R_drewN | apply Kd.R_drew)); exact HO_3.out)) k_ hk, Kd.fresh' (Kd.R_lt (by (with_reducible repeat (first | apply Kd.R_alloc | apply Kd.R_drewN | apply Kd.R_drew)); exact HO210.out)) k_ hk, Kd.freshB (g := gb172) (o := .cells #[.int .i64 ((rd_T87 l0 x10_1).f0), .int .i64 ((rd_T87 l0 x10_1).f1), .int .i64 ((rd_T87 l0 x10_1).f2)] 87 (0, 0)) BK172.out k_ hk⟩)); (case aO => exact (by (with_reducible repeat (first | apply Kd.R_alloc | apply Kd.R_drewN | apply Kd.R_drew)); exact HO213.out)); (case aS => exact (below_size (by repeat (first | (with_reducible first | exact HB.out | apply ba_ | apply bn_ | apply bd_ | refine bs_ ?_ GE172.out) | exact HB.out)))); (case aL => have := LMc43.out; omega); intro v219 w56 ho hb hg hat; rw [← Ny218.out] at ho; have n0_ := As_ (Kd.R_after (ok := (fun k_ => some k_ ≠ (.slice Ao54 y208.length co54 : Value).ownBlock ∧ k_ ≠ gb172)) (by (with_reducible repeat (first | apply Kd.R_alloc | apply Kd.R_drewN | apply Kd.R_drew)); exact HO_3.out) hg hat); have n1_ := As_ (blk_grown (g := gb172) (o := .cells #[.int .i64 ((rd_T87 l0 x10_1).f0), .int .i64 ((rd_T87 l0 x10_1).f1), .int .i64 ((rd_T87 l0 x10_1).f2)] 87 (0, 0)) BK172.out hg (Kd.R_away HO213.out (fun _ hk => hk.2.2))); have n2_ := As_ (Kd.R_after (ok := (fun k_ => some k_ ≠ (.slice Ao7 x3_1.length co7 : Value).ownBlock ∧ k_ ≠ gb172)) (by (with_reducible repeat (first | apply Kd.R_alloc | apply Kd.R_drewN | apply Kd.R_drew)); exact HO210.out) hg hat); have n3_ := As_ (hb); have n4_ := As_ ((show Kd.C k87 w56 A55 y214.length y214 from by rw [Ny214.out, KA55.out]; exact Kd.C_drop (m := (x6_2 : Int).toNat) (c := co7) ((Kd.R_reads' (Kd.R_after (ok := (fun k_ => some k_ ≠ (.slice Ao54 y208.length co54 : Value).ownBlock ∧ k_ ≠ gb172)) (by (with_reducible repeat (first | apply Kd.R_alloc | apply Kd.R_drewN | apply Kd.R_drew)); exact HO_3.out) hg hat)).2.2) KL55.out ((Kd.R_reads' (Kd.R_after (ok := (fun k_ => some k_ ≠ (.slice Ao54 y208.length co54 : Value).ownBlock ∧ k_ ≠ gb172)) (by (with_reducible repeat (first | apply Kd.R_alloc | apply Kd.R_drewN | apply Kd.R_drew)); exact HO_3.out) hg hat)).2.1))); have n5_ := As_ (ho); clear HO_3; clear BK172; clear HO210; clear HB; clear HR217; clear HO213; have HO_3 := n0_; have BK172 := n1_; have HO210 := n2_; have HB := n3_; have HR217 := n4_; have HO220 := n5_; clear n0_ n1_ n2_ n3_ n4_ n5_; clear ho hb hg hat))
     go_roundg k2
     case measure => have := HK1.out; have := HK2.out; omega
     case rel => exact ⟨(y218), (wrap64 (x10_1 + 1)), (by first | rfl | (simp; done) | (simp [*]; done)), H', ⟨by have := HK1.out; have := HK2.out; omega⟩, ⟨by (with_reducible repeat (first | apply Kd.R_alloc | apply Kd.R_drewN | apply Kd.R_drew)); exact Kd.R_mono HO220.out (fun _ hk => trivial)⟩, ⟨by repeat (first | (with_reducible first | exact HB.out | apply ba_ | apply bn_ | apply bd_ | refine bs_ ?_ GE172.out) | exact HB.out)⟩⟩
  ·
   rw [if_neg c2] at H
   have c2b0 : decide (x10_1 < (l0.length : Int)) = false := decide_eq_false c2
   clear c2
   obtain rfl := Option.some.inj H
   go_wp2
   go_ret
   exact ⟨_, by first | rfl | (simp <;> rfl) | (simp [*] <;> rfl), by (with_reducible repeat (first | apply Kd.R_alloc | apply Kd.R_drewN | apply Kd.R_drew)); exact HO_3.out, by repeat (first | (with_reducible first | exact HB.out | apply ba_ | apply bn_ | apply bd_) | exact HB.out)⟩

end Go.Proofs.Ytipiaiolhhnnhaa.PFnExactMakePuzzle
