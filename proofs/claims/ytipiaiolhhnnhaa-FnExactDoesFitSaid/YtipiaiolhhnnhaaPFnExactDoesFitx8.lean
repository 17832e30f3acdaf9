-- Written by a program of this session (wip/tools/pg.py) out of the translation.
import Derived.Test.YtipiaiolhhnnhaaPFnExactDoesFitx0
import Derived.Test.YtipiaiolhhnnhaaPFnExactDoesFitx3
import Derived.Test.YtipiaiolhhnnhaaPFnExactDoesFitx4
import Derived.Test.YtipiaiolhhnnhaaPFnExactDoesFitx5
import Derived.Test.YtipiaiolhhnnhaaPFnExactDoesFitx7
namespace Go.Proofs.Ytipiaiolhhnnhaa.PFnExactDoesFit
open Go.RowKit Go.Proofs.YtipiaiolhhnnhaaW.PrintWords Go.Proofs.YtipiaiolhhnnhaaW.PrintLast Go.Proofs.YtipiaiolhhnnhaaW.PrintMore Go.Proofs.YtipiaiolhhnnhaaH
attribute [local go_sem] max2_int min2_int max_two min_two max_three min_three max_four min_four   -- for this text's walks alone
set_option linter.unusedVariables false
set_option linter.unusedSimpArgs false

/-! ### spec_pzValue: function 70 -/
def spec_pzValue.l0 : Nat → Int → Int → Int → List (S87) → Int → Int → Int → Int → List (S87) → Option (Int)
  | 0, _, _, _, _, _, _, _, _, _ => none
  | k + 1, x0, x1, x7, x61, x62, x63, x239000, x239001, x239002 => if x63 < x62 then (if 0 ≤ x63 then (if x63 < (x61.length : Int) then (if x0 = 1 then (if ((rd_T87 x61 x63).f2) = x1 then (spec_pzValue.l0 k x0 x1 (wrap64 (x7 + 1)) x61 x62 (wrap64 (x63 + 1)) x239000 x239001 x239002) else (if x0 = 4 then ((spec_cuCorners.f k x239000 x239001 x239002 ((rd_T87 x61 x63).f0) ((rd_T87 x61 x63).f1)).bind fun t257 => (if t257 = 4 then (spec_pzValue.l0 k x0 x1 (wrap64 (x7 + 1)) x61 x62 (wrap64 (x63 + 1)) x239000 x239001 x239002) else (spec_pzValue.l0 k x0 x1 x7 x61 x62 (wrap64 (x63 + 1)) x239000 x239001 x239002))) else (spec_pzValue.l0 k x0 x1 x7 x61 x62 (wrap64 (x63 + 1)) x239000 x239001 x239002))) else (if x0 = 4 then ((spec_cuCorners.f k x239000 x239001 x239002 ((rd_T87 x61 x63).f0) ((rd_T87 x61 x63).f1)).bind fun t258 => (if t258 = 4 then (spec_pzValue.l0 k x0 x1 (wrap64 (x7 + 1)) x61 x62 (wrap64 (x63 + 1)) x239000 x239001 x239002) else (spec_pzValue.l0 k x0 x1 x7 x61 x62 (wrap64 (x63 + 1)) x239000 x239001 x239002))) else (spec_pzValue.l0 k x0 x1 x7 x61 x62 (wrap64 (x63 + 1)) x239000 x239001 x239002))) else (none)) else (none)) else (some x7)
def spec_pzValue.f (k : Nat) (a0 : Int) (a1 : Int) (a2_0 : Int) (a2_1 : Int) (l2_2 : List (S87)) : Option (Int) := if a0 = 0 then (some (l2_2.length : Int)) else (if a0 = 2 then (if a2_0 = 0 then (none) else ((spec_SquareAt.f k a2_0 a2_1 l2_2 (Int.tmod a1 a2_0) (wrap64 (Int.tdiv a1 a2_0))).bind fun bt239 => (if 0 ≤ bt239.1 then (if bt239.1 < (l2_2.length : Int) then (some ((rd_T87 l2_2 bt239.1).f2)) else (none)) else (none)))) else (if a0 = 3 then ((spec_SquaresAtEdges.f k a2_0 a2_1 l2_2).bind fun bt242 => (if 0 ≤ a1 then (if a1 < (bt242.1.length : Int) then (some (rd bt242.1 a1)) else (none)) else (none))) else (if a0 = 5 then ((spec_cuLine.f k a2_0 a2_1 l2_2).bind fun t247 => ((spec_cuTurn.f k a2_0 a2_1 l2_2).bind fun bt248 => ((spec_cuLine.f k bt248.1 bt248.2.1 bt248.2.2).bind fun t253 => ((spec_l1Most.f t247 t253).bind fun t254 => (some t254))))) else (spec_pzValue.l0 k a0 a1 0 l2_2 (l2_2.length : Int) 0 a2_0 a2_1 l2_2))))
theorem spec_pzValue.mono_l : ∀ k, (∀ y0 y1 y2 y3 y4 y5 y6 y7 y8, LeO (spec_pzValue.l0 k y0 y1 y2 y3 y4 y5 y6 y7 y8) (spec_pzValue.l0 (k + 1) y0 y1 y2 y3 y4 y5 y6 y7 y8))
  | 0 => fun _ _ _ _ _ _ _ _ _ r h => by simp [spec_pzValue.l0] at h
  | k + 1 => by
    have ih0 := spec_pzValue.mono_l k
    · intro y0 y1 y2 y3 y4 y5 y6 y7 y8
      unfold spec_pzValue.l0
      repeat' first
      | (with_reducible exact ih0 _ _ _ _ _ _ _ _ _)
      | (with_reducible exact spec_SquareAt.mono _ _ _ _ _ _)
      | (with_reducible exact spec_SquaresAtEdges.mono _ _ _ _)
      | (with_reducible exact spec_cuCorners.mono _ _ _ _ _ _)
      | (with_reducible exact spec_cuLine.mono _ _ _ _)
      | (with_reducible exact spec_cuTurn.mono _ _ _ _)
      | (with_reducible exact LeO.refl _)
      | (with_reducible exact LeO.none _)
      | (with_reducible refine LeO.ite ?_ ?_)
      | (with_reducible refine LeO.bind ?_ (fun _ => ?_))
      | exact ih0 _ _ _ _ _ _ _ _ _
      | exact spec_SquareAt.mono _ _ _ _ _ _
      | exact spec_SquaresAtEdges.mono _ _ _ _
      | exact spec_cuCorners.mono _ _ _ _ _ _
      | exact spec_cuLine.mono _ _ _ _
      | exact spec_cuTurn.mono _ _ _ _
      | exact LeO.none _
      | refine LeO.ite ?_ ?_
      | refine LeO.bind ?_ (fun _ => ?_)
theorem spec_pzValue.mono : ∀ a0 a1 a2 a3 a4 k, LeO (spec_pzValue.f k a0 a1 a2 a3 a4) (spec_pzValue.f (k + 1) a0 a1 a2 a3 a4) := by
  intro a0 a1 a2 a3 a4 k
  have ih0 := spec_pzValue.mono_l k
  unfold spec_pzValue.f
  repeat' first
      | (with_reducible exact ih0 _ _ _ _ _ _ _ _ _)
      | (with_reducible exact spec_SquareAt.mono _ _ _ _ _ _)
      | (with_reducible exact spec_SquaresAtEdges.mono _ _ _ _)
      | (with_reducible exact spec_cuCorners.mono _ _ _ _ _ _)
      | (with_reducible exact spec_cuLine.mono _ _ _ _)
      | (with_reducible exact spec_cuTurn.mono _ _ _ _)
      | (with_reducible exact LeO.refl _)
      | (with_reducible exact LeO.none _)
      | (with_reducible refine LeO.ite ?_ ?_)
      | (with_reducible refine LeO.bind ?_ (fun _ => ?_))
      | exact ih0 _ _ _ _ _ _ _ _ _
      | exact spec_SquareAt.mono _ _ _ _ _ _
      | exact spec_SquaresAtEdges.mono _ _ _ _
      | exact spec_cuCorners.mono _ _ _ _ _ _
      | exact spec_cuLine.mono _ _ _ _
      | exact spec_cuTurn.mono _ _ _ _
      | exact LeO.none _
      | refine LeO.ite ?_ ?_
      | refine LeO.bind ?_ (fun _ => ?_)
def spec_pzValue.T6 : Bool × List (List Nat × List Nat) := (true, [([], []), ([], []), ([], []), ([2], [2]), ([1, 3], [1, 3]), ([], []), ([], []), ([6], [6]), ([5, 7], [5, 7]), ([0, 4, 8], [0, 4, 8]), ([9], [9]), ([10], [10]), ([10], [10]), ([11, 9, 0, 1, 2, 3, 4, 5, 6, 7, 8, 9, 10, 11], [11]), ([12, 13, 0, 1, 2, 3, 4, 5, 6, 7, 8, 9, 10, 11, 12, 13], [12])])
def spec_pzValue.B6 : List Nat := [0, 0, 0, 4, 14, 0, 0, 64, 224, 511, 1023, 2047, 2047, 4095, 16383]
theorem spec_pzValue.tab6 : rtab .any (opsOf Try.f70 6) = spec_pzValue.T6 := by kernel_rfl
theorem spec_pzValue.bits6 : waitsOk spec_pzValue.T6.2 spec_pzValue.B6 = true := by kernel_rfl
set_option maxHeartbeats 8000000 in
set_option maxRecDepth 100000 in
theorem spec_pzValue.calls (k : Nat) (a0 : Int) (a1 : Int) (a2_0 : Int) (a2_1 : Int) (A2_2 : Option Addr) (c2_2 : Nat) (l2_2 : List (S87)) (r : Int) (w : World) (hr2_2 : Kd.C k87 w A2_2 l2_2.length l2_2) (hc2_2 : l2_2.length ≤ c2_2) (h : spec_pzValue.f k a0 a1 a2_0 a2_1 l2_2 = some r) :
    Calls Try.prog 70 #[.int .i64 a0, .int .i64 a1, .agg #[.int .i64 a2_0, .int .i64 a2_1, .slice A2_2 l2_2.length c2_2]] w fun e w' => e = .returned (.int .i64 r) ∧ Below w.heap.size w w' := by
  have hu31 := Try.underlying31
  have hu87 := Try.underlying87
  have HR2_2 := As_ hr2_2
  have HC2_2 := As_ hc2_2
  clear hr2_2 hc2_2
  have HB := As_ (Below.refl w.heap.size w)
  have H : (if a0 = 0 then (some (l2_2.length : Int)) else (if a0 = 2 then (if a2_0 = 0 then (none) else ((spec_SquareAt.f k a2_0 a2_1 l2_2 (Int.tmod a1 a2_0) (wrap64 (Int.tdiv a1 a2_0))).bind fun bt239 => (if 0 ≤ bt239.1 then (if bt239.1 < (l2_2.length : Int) then (some ((rd_T87 l2_2 bt239.1).f2)) else (none)) else (none)))) else (if a0 = 3 then ((spec_SquaresAtEdges.f k a2_0 a2_1 l2_2).bind fun bt242 => (if 0 ≤ a1 then (if a1 < (bt242.1.length : Int) then (some (rd bt242.1 a1)) else (none)) else (none))) else (if a0 = 5 then ((spec_cuLine.f k a2_0 a2_1 l2_2).bind fun t247 => ((spec_cuTurn.f k a2_0 a2_1 l2_2).bind fun bt248 => ((spec_cuLine.f k bt248.1 bt248.2.1 bt248.2.2).bind fun t253 => ((spec_l1Most.f t247 t253).bind fun t254 => (some t254))))) else (spec_pzValue.l0 k a0 a1 0 l2_2 (l2_2.length : Int) 0 a2_0 a2_1 l2_2))))) = some r := h
  clear h
  by_cases c4 : a0 = 0
  · rw [if_pos c4] at H
    have c4b0 : (a0 == 0) = true := beq_iff_eq.mpr c4
    have c4b1 : (a0 != 0) = false := bne_eq_false_iff_eq.mpr c4
    clear c4
    obtain rfl := Option.some.inj H
    go_enter Try.func70, Try.ntmps70
    go_wp2_with (first | ((with_reducible refine gate_dst (N := 5) rfl ?_); refine box_event ?hg (N := 5) ?hd (cs := #[.int .i64 a2_0, .int .i64 a2_1, .slice A2_2 l2_2.length c2_2]) (t := 31) ?hr ?_; (case hd => rfl); (case hg => rfl); (case hr => first | (go_simp; done) | (go_simp; rfl)); intro gb238 hg w5 hbox hb; have BK238 := As_ (hbox); have hW_ := bel_ w hb (by repeat (first | (with_reducible first | exact HB.out | apply below_alloc | apply pw_below_drewN | apply below_drew1) | exact HB.out)); have GE238 := As_ (gesz hg hW_); replace HB := As_ (below_step hW_ hb); clear hW_ hb hbox hg; obtain ⟨hcz6_0, hcz6_1, hcz6_2⟩ := c3_ (w := w5) BK238.out; obtain ⟨hfz6_0, hfz6_1, hfz6_2⟩ := z3_ BK238.out))
    go_ret
    exact ⟨by first | rfl | (simp [errW_none, errW_some] <;> rfl) | (simp [*, errW_none, errW_some] <;> rfl), by repeat (first | (with_reducible first | exact HB.out | apply below_alloc | apply pw_below_drewN | apply below_drew1 | refine below_set ?_ GE238.out) | exact HB.out)⟩
  · rw [if_neg c4] at H
    have c4b0 : (a0 == 0) = false := beq_eq_false_iff_ne.mpr c4
    have c4b1 : (a0 != 0) = true := bne_iff_ne.mpr c4
    by_cases c7 : a0 = 2
    · rw [if_pos c7] at H
      have c7b0 : (a0 == 2) = true := beq_iff_eq.mpr c7
      have c7b1 : (a0 != 2) = false := bne_eq_false_iff_eq.mpr c7
      clear c7
      by_cases c8 : a2_0 = 0
      · rw [if_pos c8] at H; exact absurd H (by simp)
      rw [if_neg c8] at H
      have c8b0 : (a2_0 == 0) = false := beq_eq_false_iff_ne.mpr c8
      have c8b1 : (a2_0 != 0) = true := bne_iff_ne.mpr c8
      replace H := Option.bind_eq_some_iff.mp H
      obtain ⟨⟨t239, t240⟩, A90, H⟩ := H
      try dsimp only at H
      have A9 := As_ A90
      clear A90
      by_cases c10 : 0 ≤ t239
      case neg => rw [if_neg c10] at H; exact absurd H (by simp)
      rw [if_pos c10] at H
      have c10b0 : decide (0 ≤ t239) = true := decide_eq_true c10
      clear c10
      by_cases c11 : t239 < (l2_2.length : Int)
      case neg => rw [if_neg c11] at H; exact absurd H (by simp)
      rw [if_pos c11] at H
      have c11b0 : decide (t239 < (l2_2.length : Int)) = true := decide_eq_true c11
      clear c11
      obtain rfl := Option.some.inj H
      go_enter Try.func70, Try.ntmps70
      try go_wp2_with (first | ((with_reducible refine gate_dst (N := 5) rfl ?_); refine box_event ?hg (N := 5) ?hd (cs := #[.int .i64 a2_0, .int .i64 a2_1, .slice A2_2 l2_2.length c2_2]) (t := 31) ?hr ?_; (case hd => rfl); (case hg => rfl); (case hr => first | (go_simp; done) | (go_simp; rfl)); intro gb238 hg w12 hbox hb; have BK238 := As_ (hbox); have hW_ := bel_ w hb (by repeat (first | (with_reducible first | exact HB.out | apply below_alloc | apply pw_below_drewN | apply below_drew1) | exact HB.out)); have GE238 := As_ (gesz hg hW_); replace HB := As_ (below_step hW_ hb); clear hW_ hb hbox hg))
      replace BK238 := As_ (blk_drew BK238.out)
      replace HB := As_ (below_drew1 HB.out)
      refine start_ (n := 15) (S := fun w' => w'.cell? ⟨gb238, 0, none⟩ = some (.int .i64 a2_0) ∧ w'.cell? ⟨gb238, 1, none⟩ = some (.int .i64 a2_1) ∧ w'.cell? ⟨gb238, 2, none⟩ = some (.slice A2_2 l2_2.length c2_2)) (ds := []) #[false, false, false, false, false, false, false, false, false, false, false, false, false, false, false] (by kernel_rfl) rfl rfl ⟨(blk_cell BK238.out 0).trans rfl, (blk_cell BK238.out 1).trans rfl, (blk_cell BK238.out 2).trans rfl⟩ (fun hHeld => ?_); refine with_tabW spec_pzValue.tab6 spec_pzValue.bits6 (fun HT_ HW_ => ?_)
      generalize w12.drew = w13 at BK238 HB hHeld ⊢
      refine pure_ (i := 1) (N := some 24) (v := ?_) (a' := ?_) #[false, true, false, false, false, false, false, false, false, false, false, false, false, false, false] rfl rfl (any_of HT_.out (by kernel_rfl)) (fun _ _ _ h => h) (Or.inl ⟨by rfl, ?_⟩) ?_ ?_; rotate_left
      · intro w'; go_simp; with_reducible rfl
      rotate_left
      · simp only [Act.put, sib_, sc0_, sc1_, i64_w, i32_w]; rfl
      refine pure_ (i := 2) (N := some 25) (v := ?_) (a' := ?_) #[false, true, true, false, false, false, false, false, false, false, false, false, false, false, false] rfl rfl (any_of HT_.out (by kernel_rfl)) (fun _ _ _ h => h) (Or.inl ⟨by rfl, ?_⟩) ?_ ?_; rotate_left
      · intro w'; go_simp; with_reducible rfl
      rotate_left
      · simp only [Act.put, sib_, sc0_, sc1_, i64_w, i32_w]; rfl
      refine pure_ (i := 5) (N := some 28) (v := ?_) (a' := ?_) #[false, true, true, false, false, true, false, false, false, false, false, false, false, false, false] rfl rfl (any_of HT_.out (by kernel_rfl)) (fun _ _ _ h => h) (Or.inl ⟨by rfl, ?_⟩) ?_ ?_; rotate_left
      · intro w'; go_simp; with_reducible rfl
      rotate_left
      · simp only [Act.put, sib_, sc0_, sc1_, i64_w, i32_w]; rfl
      refine pure_ (i := 6) (N := some 29) (v := ?_) (a' := ?_) #[false, true, true, false, false, true, true, false, false, false, false, false, false, false, false] rfl rfl (any_of HT_.out (by kernel_rfl)) (fun _ _ _ h => h) (Or.inl ⟨by rfl, ?_⟩) ?_ ?_; rotate_left
      · intro w'; go_simp; with_reducible rfl
      rotate_left
      · simp only [Act.put, sib_, sc0_, sc1_, i64_w, i32_w]; rfl
      refine take_ (i := 0) (N := some 23) (v := ?_) (a' := ?_) #[true, true, true, false, false, true, true, false, false, false, false, false, false, false, false] rfl rfl (take_ofW HT_.out HW_.out (by kernel_rfl)) (fun _ _ _ h => h) (Or.inl ⟨by rfl, ?_⟩) hHeld ?_ ?_; rotate_left
      · rintro w' ⟨s0, s1, s2⟩
        go_simp
        with_reducible rfl
      rotate_left
      · simp only [Act.put, sib_, sc0_, sc1_, i64_w, i32_w]; rfl
      refine take_ (i := 3) (N := some 26) (v := ?_) (a' := ?_) #[true, true, true, true, false, true, true, false, false, false, false, false, false, false, false] rfl rfl (take_ofW HT_.out HW_.out (by kernel_rfl)) (fun _ _ _ h => h) (Or.inl ⟨by rfl, ?_⟩) hHeld ?_ ?_; rotate_left
      · rintro w' ⟨s0, s1, s2⟩
        go_simp
        with_reducible rfl
      rotate_left
      · simp only [Act.put, sib_, sc0_, sc1_, i64_w, i32_w]; rfl
      refine pure_ (i := 4) (N := some 27) (v := ?_) (a' := ?_) #[true, true, true, true, true, true, true, false, false, false, false, false, false, false, false] rfl rfl (any_of HT_.out (by kernel_rfl)) (fun _ _ _ h => h) (Or.inl ⟨by rfl, ?_⟩) ?_ ?_; rotate_left
      · intro w'; go_simp; with_reducible rfl
      rotate_left
      · simp only [Act.put, sib_, sc0_, sc1_, i64_w, i32_w]; rfl
      refine take_ (i := 7) (N := some 30) (v := ?_) (a' := ?_) #[true, true, true, true, true, true, true, true, false, false, false, false, false, false, false] rfl rfl (take_ofW HT_.out HW_.out (by kernel_rfl)) (fun _ _ _ h => h) (Or.inl ⟨by rfl, ?_⟩) hHeld ?_ ?_; rotate_left
      · rintro w' ⟨s0, s1, s2⟩
        go_simp
        with_reducible rfl
      rotate_left
      · simp only [Act.put, sib_, sc0_, sc1_, i64_w, i32_w]; rfl
      refine pure_ (i := 8) (N := some 31) (v := ?_) (a' := ?_) #[true, true, true, true, true, true, true, true, true, false, false, false, false, false, false] rfl rfl (any_of HT_.out (by kernel_rfl)) (fun _ _ _ h => h) (Or.inl ⟨by rfl, ?_⟩) ?_ ?_; rotate_left
      · intro w'; go_simp; with_reducible rfl
      rotate_left
      · simp only [Act.put, sib_, sc0_, sc1_, i64_w, i32_w]; rfl
      refine one_ (i := 9) (N := some 32) #[true, true, true, true, true, true, true, true, true, true, false, false, false, false, false] rfl rfl (one_of HT_.out (by kernel_rfl)) (by decide) (fun K hK => ?_)
      refine goes_ Try.func90 (by kernel_rfl) rfl #[.agg #[.int .i64 a2_0, .int .i64 a2_1, .slice A2_2 l2_2.length c2_2], .int .i64 (Int.tmod a1 a2_0), .int .i64 (wrap64 (Int.tdiv a1 a2_0))] (by rfl) rfl rfl (by (try simp only [List.map_toArray, List.map_cons, List.map_nil]); first | done | rfl | (simp only [List.length_drop, List.length_take]; rfl)) ?_
      with_reducible refine (spec_SquareAt.calls k a2_0 a2_1 _ _ l2_2 (Int.tmod a1 a2_0) (wrap64 (Int.tdiv a1 a2_0)) t239 t240 _ ?side1 ?side2 A9.out).mono ?_
      (case side1 => repeat (first | exact (Kd.C_below HR2_2.out HB.out) | (with_reducible refine Kd.C_alloc ?_ _) | (with_reducible refine Kd.C_drewN ?_ _) | (with_reducible refine Kd.C_drew ?_)))
      (case side2 => exact HC2_2.out)
      rintro e w14 ⟨rfl, hb⟩
      refine ⟨_, rfl, ?_⟩
      replace BK238 := As_ (blk_b hb BK238.out)
      replace HB := As_ (below_step (by repeat (first | (with_reducible first | exact HB.out | apply below_alloc | apply pw_below_drewN | apply below_drew1 | refine below_set ?_ GE238.out) | exact HB.out)) hb)
      (try clear hb)
      (try clear hb2)
      (try clear hk)
      (try clear hi)
      refine hK.out _ _ ⟨(blk_cell BK238.out 0).trans rfl, (blk_cell BK238.out 1).trans rfl, (blk_cell BK238.out 2).trans rfl⟩ (fun hHeld => ?_); clear hK K
      refine norm_ (a' := ?_) ?_ ?_; rotate_left
      · show Act.put _ (some 32) _ = _
        simp only [Act.put, sib_, sc0_, sc1_, i64_w, i32_w]
        rfl
      refine pure_ (i := 10) (N := some 22) (v := ?_) (a' := ?_) #[true, true, true, true, true, true, true, true, true, true, true, false, false, false, false] rfl rfl (any_of HT_.out (by kernel_rfl)) (fun _ _ _ h => h) (Or.inl ⟨by rfl, ?_⟩) ?_ ?_; rotate_left
      · intro w'; go_simp; with_reducible rfl
      rotate_left
      · simp only [Act.put, sib_, sc0_, sc1_, i64_w, i32_w]; rfl
      refine pure_ (i := 11) (N := some 33) (v := ?_) (a' := ?_) #[true, true, true, true, true, true, true, true, true, true, true, true, false, false, false] rfl rfl (any_of HT_.out (by kernel_rfl)) (fun _ _ _ h => h) (Or.inl ⟨by rfl, ?_⟩) ?_ ?_; rotate_left
      · intro w'; go_simp; with_reducible rfl
      rotate_left
      · simp only [Act.put, sib_, sc0_, sc1_, i64_w, i32_w]; rfl
      refine pure_ (i := 12) (N := some 34) (v := ?_) (a' := ?_) #[true, true, true, true, true, true, true, true, true, true, true, true, true, false, false] rfl rfl (any_of HT_.out (by kernel_rfl)) (fun _ _ _ h => h) (Or.inl ⟨by rfl, ?_⟩) ?_ ?_; rotate_left
      · intro w'; go_simp; with_reducible rfl
      rotate_left
      · simp only [Act.put, sib_, sc0_, sc1_, i64_w, i32_w]; rfl
      refine pure_ (i := 13) (N := some 8) (v := ?_) (a' := ?_) #[true, true, true, true, true, true, true, true, true, true, true, true, true, true, false] rfl rfl (any_of HT_.out (by kernel_rfl)) (fun _ _ _ h => h) (Or.inl ⟨by rfl, ?_⟩) ?_ ?_; rotate_left
      · intro w'; go_simp; with_reducible rfl
      rotate_left
      · simp only [Act.put, sib_, sc0_, sc1_, i64_w, i32_w]; rfl
      refine pure_ (i := 14) (N := some 9) (v := ?_) (a' := ?_) #[true, true, true, true, true, true, true, true, true, true, true, true, true, true, true] rfl rfl (any_of HT_.out (by kernel_rfl)) (fun _ _ _ h => h) (Or.inl ⟨by rfl, ?_⟩) ?_ ?_; rotate_left
      · intro w'; go_simp; with_reducible rfl
      rotate_left
      · simp only [Act.put, sib_, sc0_, sc1_, i64_w, i32_w]; rfl
      refine done_ (done_of HT_.out (by kernel_rfl)) ?_
      obtain ⟨hcz15_0, hcz15_1, hcz15_2⟩ := c3_ (w := w14) BK238.out
      obtain ⟨hfz15_0, hfz15_1, hfz15_2⟩ := z3_ BK238.out
      have p241 : 0 ≤ (t239 : Int) := of_decide_eq_true (by first | (with_reducible assumption) | assumption)
      have q241 : t239 < (l2_2.length : Int) := of_decide_eq_true (by first | (with_reducible assumption) | assumption)
      obtain ⟨ad241, e241, hx241_0, hx241_1, hx241_2⟩ := at_T87 HR2_2.out t239 p241 q241
      cases e241
      replace hx241_0 := (HB.out.cell (World.block_lt_of_cell? w _ hx241_0)).trans hx241_0
      replace hx241_1 := (HB.out.cell (World.block_lt_of_cell? w _ hx241_1)).trans hx241_1
      replace hx241_2 := (HB.out.cell (World.block_lt_of_cell? w _ hx241_2)).trans hx241_2
      replace p241 := eq_true p241
      replace q241 := eq_true q241
      try go_wp2
      go_ret
      exact ⟨by first | rfl | (simp [errW_none, errW_some] <;> rfl) | (simp [*, errW_none, errW_some] <;> rfl), by repeat (first | (with_reducible first | exact HB.out | apply below_alloc | apply pw_below_drewN | apply below_drew1 | refine below_set ?_ GE238.out) | exact HB.out)⟩
    · rw [if_neg c7] at H
      have c7b0 : (a0 == 2) = false := beq_eq_false_iff_ne.mpr c7
      have c7b1 : (a0 != 2) = true := bne_iff_ne.mpr c7
      by_cases c16 : a0 = 3
      · rw [if_pos c16] at H
        have c16b0 : (a0 == 3) = true := beq_iff_eq.mpr c16
        have c16b1 : (a0 != 3) = false := bne_eq_false_iff_eq.mpr c16
        clear c16
        replace H := Option.bind_eq_some_iff.mp H
        obtain ⟨⟨t242, t245⟩, A170, H⟩ := H
        try dsimp only at H
        have A17 := As_ A170
        clear A170
        by_cases c18 : 0 ≤ a1
        case neg => rw [if_neg c18] at H; exact absurd H (by simp)
        rw [if_pos c18] at H
        have c18b0 : decide (0 ≤ a1) = true := decide_eq_true c18
        clear c18
        by_cases c19 : a1 < (t242.length : Int)
        case neg => rw [if_neg c19] at H; exact absurd H (by simp)
        rw [if_pos c19] at H
        have c19b0 : decide (a1 < (t242.length : Int)) = true := decide_eq_true c19
        clear c19
        obtain rfl := Option.some.inj H
        go_enter Try.func70, Try.ntmps70
        go_wp2_with (first | ((with_reducible refine gate_dst (N := 5) rfl ?_); refine box_event ?hg (N := 5) ?hd (cs := #[.int .i64 a2_0, .int .i64 a2_1, .slice A2_2 l2_2.length c2_2]) (t := 31) ?hr ?_; (case hd => rfl); (case hg => rfl); (case hr => first | (go_simp; done) | (go_simp; rfl)); intro gb238 hg w20 hbox hb; have BK238 := As_ (hbox); have hW_ := bel_ w hb (by repeat (first | (with_reducible first | exact HB.out | apply below_alloc | apply pw_below_drewN | apply below_drew1) | exact HB.out)); have GE238 := As_ (gesz hg hW_); replace HB := As_ (below_step hW_ hb); clear hW_ hb hbox hg; obtain ⟨hcz21_0, hcz21_1, hcz21_2⟩ := c3_ (w := w20) BK238.out; obtain ⟨hfz21_0, hfz21_1, hfz21_2⟩ := z3_ BK238.out) | ((with_reducible refine gate_callee (f := 91) rfl ?_); refine goesL_ (some 45) rfl rfl Try.func91 (by kernel_rfl) rfl #[.agg #[.int .i64 a2_0, .int .i64 a2_1, .slice A2_2 l2_2.length c2_2]] rfl (by (try simp only [List.map_toArray, List.map_cons, List.map_nil]); first | done | rfl | (simp only [List.length_drop, List.length_take]; rfl)) ?_; (with_reducible refine (spec_SquaresAtEdges.calls k a2_0 a2_1 _ _ l2_2 t242 t245 _ ?side1 ?side2 A17.out).mono ?_); (case side1 => repeat (first | exact (Kd.C_below HR2_2.out HB.out) | (with_reducible refine Kd.C_alloc ?_ _) | (with_reducible refine Kd.C_drewN ?_ _) | (with_reducible refine Kd.C_drew ?_))); (case side2 => exact HC2_2.out); rintro e w22 ⟨v243, rfl, ho0, hb⟩; refine ⟨_, rfl, ?_⟩; have HO244 := As_ (Kd.R_lower ho0 (below_size (by repeat (first | (with_reducible first | exact HB.out | apply below_alloc | apply pw_below_drewN | apply below_drew1 | refine below_set ?_ GE238.out) | exact HB.out)))); replace BK238 := As_ (blk_b hb BK238.out); replace HB := As_ (below_step (by repeat (first | (with_reducible first | exact HB.out | apply below_alloc | apply pw_below_drewN | apply below_drew1 | refine below_set ?_ GE238.out) | exact HB.out)) hb); (try clear hb); (try clear ho0); obtain ⟨Ao23, co23, eo23⟩ := Kd.R_slice HO244.out; subst eo23; have p246 : 0 ≤ (a1 : Int) := of_decide_eq_true (by first | (with_reducible assumption) | assumption); have q246 : a1 < (t242.length : Int) := of_decide_eq_true (by first | (with_reducible assumption) | assumption); obtain ⟨ad246, e246, hx246_0⟩ := Kd.at_int (Kd.R_reads' HO244.out).2.2 a1 p246 q246; cases e246; replace p246 := eq_true p246; replace q246 := eq_true q246))
        go_ret
        exact ⟨by first | rfl | (simp [errW_none, errW_some] <;> rfl) | (simp [*, errW_none, errW_some] <;> rfl), by repeat (first | (with_reducible first | exact HB.out | apply below_alloc | apply pw_below_drewN | apply below_drew1 | refine below_set ?_ GE238.out) | exact HB.out)⟩
      · rw [if_neg c16] at H
        have c16b0 : (a0 == 3) = false := beq_eq_false_iff_ne.mpr c16
        have c16b1 : (a0 != 3) = true := bne_iff_ne.mpr c16
        by_cases c24 : a0 = 5
        · rw [if_pos c24] at H
          have c24b0 : (a0 == 5) = true := beq_iff_eq.mpr c24
          have c24b1 : (a0 != 5) = false := bne_eq_false_iff_eq.mpr c24
          clear c24
          replace H := Option.bind_eq_some_iff.mp H
          obtain ⟨t247, A250, H⟩ := H
          try dsimp only at H
          have A25 := As_ A250
          clear A250
          replace H := Option.bind_eq_some_iff.mp H
          obtain ⟨⟨t248, t249, t250⟩, A260, H⟩ := H
          try dsimp only at H
          have A26 := As_ A260
          clear A260
          replace H := Option.bind_eq_some_iff.mp H
          obtain ⟨t253, A270, H⟩ := H
          try dsimp only at H
          have A27 := As_ A270
          clear A270
          replace H := Option.bind_eq_some_iff.mp H
          obtain ⟨t254, A280, H⟩ := H
          try dsimp only at H
          have A28 := As_ A280
          clear A280
          obtain rfl := Option.some.inj H
          go_enter Try.func70, Try.ntmps70
          try go_wp2_with (first | ((with_reducible refine gate_dst (N := 5) rfl ?_); refine box_event ?hg (N := 5) ?hd (cs := #[.int .i64 a2_0, .int .i64 a2_1, .slice A2_2 l2_2.length c2_2]) (t := 31) ?hr ?_; (case hd => rfl); (case hg => rfl); (case hr => first | (go_simp; done) | (go_simp; rfl)); intro gb238 hg w29 hbox hb; have BK238 := As_ (hbox); have hW_ := bel_ w hb (by repeat (first | (with_reducible first | exact HB.out | apply below_alloc | apply pw_below_drewN | apply below_drew1) | exact HB.out)); have GE238 := As_ (gesz hg hW_); replace HB := As_ (below_step hW_ hb); clear hW_ hb hbox hg))
          replace BK238 := As_ (blk_drew BK238.out)
          replace HB := As_ (below_drew1 HB.out)
          refine start_ (n := 7) (S := fun w' => w'.cell? ⟨gb238, 0, none⟩ = some (.int .i64 a2_0) ∧ w'.cell? ⟨gb238, 1, none⟩ = some (.int .i64 a2_1) ∧ w'.cell? ⟨gb238, 2, none⟩ = some (.slice A2_2 l2_2.length c2_2)) (ds := []) #[false, false, false, false, false, false, false] (by kernel_rfl) rfl rfl ⟨(blk_cell BK238.out 0).trans rfl, (blk_cell BK238.out 1).trans rfl, (blk_cell BK238.out 2).trans rfl⟩ (fun hHeld => ?_)
          generalize w29.drew = w30 at BK238 HB hHeld ⊢
          refine take_ (i := 0) (N := some 54) (v := ?_) (a' := ?_) #[true, false, false, false, false, false, false] rfl rfl (by kernel_rfl) (fun _ _ _ h => h) (Or.inl ⟨by rfl, ?_⟩) hHeld ?_ ?_; rotate_left
          · rintro w' ⟨s0, s1, s2⟩
            go_simp
            with_reducible rfl
          rotate_left
          · simp only [Act.put, sib_, sc0_, sc1_, i64_w, i32_w]; rfl
          refine take_ (i := 2) (N := some 56) (v := ?_) (a' := ?_) #[true, false, true, false, false, false, false] rfl rfl (by kernel_rfl) (fun _ _ _ h => h) (Or.inl ⟨by rfl, ?_⟩) hHeld ?_ ?_; rotate_left
          · rintro w' ⟨s0, s1, s2⟩
            go_simp
            with_reducible rfl
          rotate_left
          · simp only [Act.put, sib_, sc0_, sc1_, i64_w, i32_w]; rfl
          refine one_ (i := 1) (N := some 55) #[true, true, true, false, false, false, false] rfl rfl (by kernel_rfl) (by decide) (fun K hK => ?_)
          refine goes_ Try.func93 (by kernel_rfl) rfl #[.agg #[.int .i64 a2_0, .int .i64 a2_1, .slice A2_2 l2_2.length c2_2]] (by rfl) rfl rfl (by (try simp only [List.map_toArray, List.map_cons, List.map_nil]); first | done | rfl | (simp only [List.length_drop, List.length_take]; rfl)) ?_
          with_reducible refine (spec_cuLine.calls k a2_0 a2_1 _ _ l2_2 t247 _ ?side1 ?side2 A25.out).mono ?_
          (case side1 => repeat (first | exact (Kd.C_below HR2_2.out HB.out) | (with_reducible refine Kd.C_alloc ?_ _) | (with_reducible refine Kd.C_drewN ?_ _) | (with_reducible refine Kd.C_drew ?_)))
          (case side2 => exact HC2_2.out)
          rintro e w31 ⟨rfl, hb⟩
          refine ⟨_, rfl, ?_⟩
          replace BK238 := As_ (blk_b hb BK238.out)
          replace HB := As_ (below_step (by repeat (first | (with_reducible first | exact HB.out | apply below_alloc | apply pw_below_drewN | apply below_drew1 | refine below_set ?_ GE238.out) | exact HB.out)) hb)
          (try clear hb)
          (try clear hb2)
          (try clear hk)
          (try clear hi)
          refine hK.out _ _ ⟨(blk_cell BK238.out 0).trans rfl, (blk_cell BK238.out 1).trans rfl, (blk_cell BK238.out 2).trans rfl⟩ (fun hHeld => ?_); clear hK K
          refine norm_ (a' := ?_) ?_ ?_; rotate_left
          · show Act.put _ (some 55) _ = _
            simp only [Act.put, sib_, sc0_, sc1_, i64_w, i32_w]
            rfl
          refine one_ (i := 3) (N := some 57) #[true, true, true, true, false, false, false] rfl rfl (by kernel_rfl) (by decide) (fun K hK => ?_)
          refine goes_ Try.func94 (by kernel_rfl) rfl #[.agg #[.int .i64 a2_0, .int .i64 a2_1, .slice A2_2 l2_2.length c2_2]] (by rfl) rfl rfl (by (try simp only [List.map_toArray, List.map_cons, List.map_nil]); first | done | rfl | (simp only [List.length_drop, List.length_take]; rfl)) ?_
          with_reducible refine (spec_cuTurn.calls k a2_0 a2_1 _ _ l2_2 t248 t249 t250 _ ?side1 ?side2 A26.out).mono ?_
          (case side1 => repeat (first | exact (Kd.C_below HR2_2.out HB.out) | (with_reducible refine Kd.C_alloc ?_ _) | (with_reducible refine Kd.C_drewN ?_ _) | (with_reducible refine Kd.C_drew ?_)))
          (case side2 => exact HC2_2.out)
          rintro e w32 ⟨v251, rfl, ho0, hb⟩
          refine ⟨_, rfl, ?_⟩
          have HO252 := As_ (Kd.R_lower ho0 (below_size (by repeat (first | (with_reducible first | exact HB.out | apply below_alloc | apply pw_below_drewN | apply below_drew1 | refine below_set ?_ GE238.out) | exact HB.out))))
          replace BK238 := As_ (blk_b hb BK238.out)
          replace HB := As_ (below_step (by repeat (first | (with_reducible first | exact HB.out | apply below_alloc | apply pw_below_drewN | apply below_drew1 | refine below_set ?_ GE238.out) | exact HB.out)) hb)
          (try clear hb)
          (try clear hb2)
          (try clear hk)
          (try clear hi)
          (try clear ho0)
          obtain ⟨Ao33, co33, eo33⟩ := Kd.R_slice HO252.out
          (first | subst eo33 | (injection eo33 with f1_ f2_ f3_; have f4_ := f1_.symm; have f5_ := f3_.symm; clear f1_ f2_ f3_; subst f4_; subst f5_))
          refine hK.out _ _ ⟨(blk_cell BK238.out 0).trans rfl, (blk_cell BK238.out 1).trans rfl, (blk_cell BK238.out 2).trans rfl⟩ (fun hHeld => ?_); clear hK K
          refine norm_ (a' := ?_) ?_ ?_; rotate_left
          · show Act.put _ (some 57) _ = _
            simp only [Act.put, sib_, sc0_, sc1_, i64_w, i32_w]
            rfl
          refine one_ (i := 4) (N := some 58) #[true, true, true, true, true, false, false] rfl rfl (by kernel_rfl) (by decide) (fun K hK => ?_)
          refine goes_ Try.func93 (by kernel_rfl) rfl #[.agg #[.int .i64 t248, .int .i64 t249, .slice Ao33 t250.length co33]] (by rfl) rfl rfl (by (try simp only [List.map_toArray, List.map_cons, List.map_nil]); first | done | rfl | (simp only [List.length_drop, List.length_take]; rfl)) ?_
          with_reducible refine (spec_cuLine.calls k t248 t249 _ _ t250 t253 _ ?side1 ?side2 A27.out).mono ?_
          (case side1 => repeat (first | exact (Kd.R_reads' HO252.out).2.2 | (with_reducible refine Kd.C_alloc ?_ _) | (with_reducible refine Kd.C_drewN ?_ _) | (with_reducible refine Kd.C_drew ?_)))
          (case side2 => exact (Kd.R_reads' HO252.out).2.1)
          rintro e w34 ⟨rfl, hb⟩
          refine ⟨_, rfl, ?_⟩
          replace HO252 := As_ (Kd.R_below (by (with_reducible repeat (first | apply Kd.R_alloc | apply Kd.R_drewN | apply Kd.R_drew)); exact HO252.out) hb)
          replace BK238 := As_ (blk_b hb BK238.out)
          replace HB := As_ (below_step (by repeat (first | (with_reducible first | exact HB.out | apply below_alloc | apply pw_below_drewN | apply below_drew1 | refine below_set ?_ GE238.out) | exact HB.out)) hb)
          (try clear hb)
          (try clear hb2)
          (try clear hk)
          (try clear hi)
          refine hK.out _ _ ⟨(blk_cell BK238.out 0).trans rfl, (blk_cell BK238.out 1).trans rfl, (blk_cell BK238.out 2).trans rfl⟩ (fun hHeld => ?_); clear hK K
          refine norm_ (a' := ?_) ?_ ?_; rotate_left
          · show Act.put _ (some 58) _ = _
            simp only [Act.put, sib_, sc0_, sc1_, i64_w, i32_w]
            rfl
          refine one_ (i := 5) (N := some 59) #[true, true, true, true, true, true, false] rfl rfl (by kernel_rfl) (by decide) (fun K hK => ?_)
          refine goes_ Try.func92 (by kernel_rfl) rfl #[.int .i64 t247, .int .i64 t253] (by rfl) rfl rfl (by (try simp only [List.map_toArray, List.map_cons, List.map_nil]); first | done | rfl | (simp only [List.length_drop, List.length_take]; rfl)) ?_
          with_reducible refine (spec_l1Most.calls t247 t253 t254 _ A28.out).mono ?_
          rintro e w' ⟨rfl, ⟨nd, rfl⟩⟩
          refine ⟨_, rfl, ?_⟩
          refine hK.out _ _ ⟨(blk_cell BK238.out 0).trans rfl, (blk_cell BK238.out 1).trans rfl, (blk_cell BK238.out 2).trans rfl⟩ (fun hHeld => ?_); clear hK K
          refine norm_ (a' := ?_) ?_ ?_; rotate_left
          · show Act.put _ (some 59) _ = _
            simp only [Act.put, sib_, sc0_, sc1_, i64_w, i32_w]
            rfl
          refine pure_ (i := 6) (N := some 6) (v := ?_) (a' := ?_) #[true, true, true, true, true, true, true] rfl rfl (by kernel_rfl) (fun _ _ _ h => h) (Or.inl ⟨by rfl, ?_⟩) ?_ ?_; rotate_left
          · intro w'; go_simp; with_reducible rfl
          rotate_left
          · simp only [Act.put, sib_, sc0_, sc1_, i64_w, i32_w]; rfl
          refine done_ (by kernel_rfl) ?_
          try go_wp2
          go_ret
          exact ⟨by first | rfl | (simp [errW_none, errW_some] <;> rfl) | (simp [*, errW_none, errW_some] <;> rfl), by repeat (first | (with_reducible first | exact HB.out | apply below_alloc | apply pw_below_drewN | apply below_drew1 | refine below_set ?_ GE238.out) | exact HB.out)⟩
        · rw [if_neg c24] at H
          have c24b0 : (a0 == 5) = false := beq_eq_false_iff_ne.mpr c24
          have c24b1 : (a0 != 5) = true := bne_iff_ne.mpr c24
          have H' := As_ H
          clear H
          go_enter Try.func70, Try.ntmps70
          go_wp2_with (first | ((with_reducible refine gate_dst (N := 5) rfl ?_); refine box_event ?hg (N := 5) ?hd (cs := #[.int .i64 a2_0, .int .i64 a2_1, .slice A2_2 l2_2.length c2_2]) (t := 31) ?hr ?_; (case hd => rfl); (case hg => rfl); (case hr => first | (go_simp; done) | (go_simp; rfl)); intro gb238 hg w35 hbox hb; have BK238 := As_ (hbox); have hW_ := bel_ w hb (by repeat (first | (with_reducible first | exact HB.out | apply below_alloc | apply pw_below_drewN | apply below_drew1) | exact HB.out)); have GE238 := As_ (gesz hg hW_); replace HB := As_ (below_step hW_ hb); clear hW_ hb hbox hg; obtain ⟨hcz36_0, hcz36_1, hcz36_2⟩ := c3_ (w := w35) BK238.out; obtain ⟨hfz36_0, hfz36_1, hfz36_2⟩ := z3_ BK238.out))
          go_loopg [7, 63] k (fun kq v7 v63 w' => ∃ (x7_1 : Int) (x63_1 : Int), v7 = .int .i64 x7_1 ∧ v63 = .int .i64 x63_1 ∧ Aside0 (spec_pzValue.l0 kq a0 a1 x7_1 l2_2 (l2_2.length : Int) x63_1 a2_0 a2_1 l2_2 = some r) ∧ Aside0 (kq ≤ k) ∧ Aside0 (w'.heap[gb238]? = some (.cells #[.int .i64 a2_0, .int .i64 a2_1, (.slice A2_2 l2_2.length c2_2)] 31 (0, 0))) ∧ Aside0 (Below w.heap.size w w'))
          case atStart => exact ⟨(0), (0), (by first | rfl | (simp; done) | (simp [*]; done)), (by first | rfl | (simp; done) | (simp [*]; done)), H', ⟨Nat.le_refl _⟩, ⟨by (with_reducible repeat (first | refine blk_drewN ?_ _ | refine blk_drew ?_ | refine blk_alloc ?_ _)); exact BK238.out⟩, ⟨by repeat (first | (with_reducible first | exact HB.out | apply below_alloc | apply pw_below_drewN | apply below_drew1 | refine below_set ?_ GE238.out) | exact HB.out)⟩⟩
          case round =>
            clear H'
            try clear c1; try clear c2; try clear p2
            try clear q2
            try clear hx2; try clear c4; try clear c4b0; try clear c4b1; try clear p6; try clear c7; try clear c7b0; try clear c7b1; try clear c8; try clear c8b0; try clear c8b1; try clear c9; try clear c10; try clear c10b0; try clear c11; try clear c11b0; try clear c16; try clear c16b0; try clear c16b1; try clear c18; try clear c18b0; try clear c19; try clear c19b0; try clear c24; try clear c24b0; try clear c24b1; try clear p24
            try clear q24
            try clear hx24; try clear hcz15_0; try clear hcz15_1; try clear hcz15_2; try clear hcz21_0; try clear hcz21_1; try clear hcz21_2; try clear hcz36_0; try clear hcz36_1; try clear hcz36_2; try clear hcz6_0; try clear hcz6_1; try clear hcz6_2; try clear hfz15_0; try clear hfz15_1; try clear hfz15_2; try clear hfz21_0; try clear hfz21_1; try clear hfz21_2; try clear hfz36_0; try clear hfz36_1; try clear hfz36_2; try clear hfz6_0; try clear hfz6_1; try clear hfz6_2; try clear hx241_0; try clear hx241_1; try clear hx241_2; try clear hx246_0; try clear p241; try clear p246
            try clear q241
            try clear q246
            obtain ⟨x7_1, x63_1, rfl, rfl, HA, HK1, BK238, HB⟩ := hrel
            rcases gk with _ | k1
            · exact absurd HA.out (by simp [spec_pzValue.l0])
            have H := HA.out
            clear HA
            simp only [spec_pzValue.l0] at H
            by_cases c37 : x63_1 < (l2_2.length : Int)
            · rw [if_pos c37] at H
              have c37b0 : decide (x63_1 < (l2_2.length : Int)) = true := decide_eq_true c37
              clear c37
              by_cases c38 : 0 ≤ x63_1
              case neg => rw [if_neg c38] at H; exact absurd H (by simp)
              rw [if_pos c38] at H
              have c38b0 : decide (0 ≤ x63_1) = true := decide_eq_true c38
              clear c38
              by_cases c39 : x63_1 < (l2_2.length : Int)
              case neg => rw [if_neg c39] at H; exact absurd H (by simp)
              rw [if_pos c39] at H
              have c39b0 : decide (x63_1 < (l2_2.length : Int)) = true := decide_eq_true c39
              clear c39
              by_cases c40 : a0 = 1
              · rw [if_pos c40] at H
                have c40b0 : (a0 == 1) = true := beq_iff_eq.mpr c40
                have c40b1 : (a0 != 1) = false := bne_eq_false_iff_eq.mpr c40
                clear c40
                by_cases c41 : ((rd_T87 l2_2 x63_1).f2) = a1
                · rw [if_pos c41] at H
                  have c41b0 : (((rd_T87 l2_2 x63_1).f2) == a1) = true := beq_iff_eq.mpr c41
                  have c41b1 : (((rd_T87 l2_2 x63_1).f2) != a1) = false := bne_eq_false_iff_eq.mpr c41
                  clear c41
                  have H' := As_ H
                  clear H
                  have p255 : 0 ≤ (x63_1 : Int) := of_decide_eq_true (by first | (with_reducible assumption) | assumption)
                  have q255 : x63_1 < (l2_2.length : Int) := of_decide_eq_true (by first | (with_reducible assumption) | assumption)
                  obtain ⟨ad255, e255, hx255_0, hx255_1, hx255_2⟩ := at_T87 HR2_2.out x63_1 p255 q255
                  cases e255
                  replace hx255_0 := (HB.out.cell (World.block_lt_of_cell? w _ hx255_0)).trans hx255_0
                  replace hx255_1 := (HB.out.cell (World.block_lt_of_cell? w _ hx255_1)).trans hx255_1
                  replace hx255_2 := (HB.out.cell (World.block_lt_of_cell? w _ hx255_2)).trans hx255_2
                  replace p255 := eq_true p255
                  replace q255 := eq_true q255
                  go_wp2_with (first | ((with_reducible refine gate_dst (N := 13) rfl ?_); refine box_event ?hg (N := 13) ?hd (cs := #[.int .i64 0, .int .i64 0, .int .i64 0]) (t := 87) ?hr ?_; (case hd => rfl); (case hg => rfl); (case hr => first | (go_simp; done) | (go_simp; rfl)); intro gb256 hg w42 hbox hb; have BK256 := As_ (hbox); have hW_ := bel_ w hb (by repeat (first | (with_reducible first | exact HB.out | apply below_alloc | apply pw_below_drewN | apply below_drew1 | refine below_set ?_ GE238.out) | exact HB.out)); have GE256 := As_ (gesz hg hW_); have NB238_256 := As_ (ne_lt hg BK238.out); have NB256_238 := As_ (ne_gt hg BK238.out); replace BK238 := As_ (blk_b hb BK238.out); replace HB := As_ (below_step hW_ hb); clear hW_ hb hbox hg; have hnb43 := NB256_238.out; have hnc43 := NB238_256.out; obtain ⟨hcz44_0, hcz44_1, hcz44_2⟩ := c3_ (w := w42) BK256.out; obtain ⟨hfz44_0, hfz44_1, hfz44_2⟩ := z3_ BK256.out))
                  go_roundg k1
                  case measure => have := HK1.out; omega
                  case rel => exact ⟨(wrap64 (x7_1 + 1)), (wrap64 (x63_1 + 1)), (by first | rfl | (simp; done) | (simp [*]; done)), (by first | rfl | (simp; done) | (simp [*]; done)), H', ⟨by have := HK1.out; omega⟩, ⟨by (with_reducible repeat (first | refine blk_drewN ?_ _ | refine blk_drew ?_ | refine blk_alloc ?_ _)); refine blk_far ?_ NB238_256.out _; refine blk_far ?_ NB238_256.out _; refine blk_far ?_ NB238_256.out _; (with_reducible repeat (first | refine blk_drewN ?_ _ | refine blk_drew ?_ | refine blk_alloc ?_ _)); exact BK238.out⟩, ⟨by repeat (first | (with_reducible first | exact HB.out | apply below_alloc | apply pw_below_drewN | apply below_drew1 | refine below_setA ?_ (by assumption)) | exact HB.out)⟩⟩
                · rw [if_neg c41] at H
                  have c41b0 : (((rd_T87 l2_2 x63_1).f2) == a1) = false := beq_eq_false_iff_ne.mpr c41
                  have c41b1 : (((rd_T87 l2_2 x63_1).f2) != a1) = true := bne_iff_ne.mpr c41
                  by_cases c45 : a0 = 4
                  · rw [if_pos c45] at H
                    have c45b0 : (a0 == 4) = true := beq_iff_eq.mpr c45
                    have c45b1 : (a0 != 4) = false := bne_eq_false_iff_eq.mpr c45
                    clear c45
                    replace H := Option.bind_eq_some_iff.mp H
                    obtain ⟨t257, A460, H⟩ := H
                    try dsimp only at H
                    have A46 := As_ A460
                    clear A460
                    by_cases c47 : t257 = 4
                    · rw [if_pos c47] at H
                      have c47b0 : (t257 == 4) = true := beq_iff_eq.mpr c47
                      have c47b1 : (t257 != 4) = false := bne_eq_false_iff_eq.mpr c47
                      clear c47
                      have H' := As_ H
                      clear H
                      have p255 : 0 ≤ (x63_1 : Int) := of_decide_eq_true (by first | (with_reducible assumption) | assumption)
                      have q255 : x63_1 < (l2_2.length : Int) := of_decide_eq_true (by first | (with_reducible assumption) | assumption)
                      obtain ⟨ad255, e255, hx255_0, hx255_1, hx255_2⟩ := at_T87 HR2_2.out x63_1 p255 q255
                      cases e255
                      replace hx255_0 := (HB.out.cell (World.block_lt_of_cell? w _ hx255_0)).trans hx255_0
                      replace hx255_1 := (HB.out.cell (World.block_lt_of_cell? w _ hx255_1)).trans hx255_1
                      replace hx255_2 := (HB.out.cell (World.block_lt_of_cell? w _ hx255_2)).trans hx255_2
                      replace p255 := eq_true p255
                      replace q255 := eq_true q255
                      go_wp2_with (first | ((with_reducible refine gate_dst (N := 13) rfl ?_); refine box_event ?hg (N := 13) ?hd (cs := #[.int .i64 0, .int .i64 0, .int .i64 0]) (t := 87) ?hr ?_; (case hd => rfl); (case hg => rfl); (case hr => first | (go_simp; done) | (go_simp; rfl)); intro gb256 hg w48 hbox hb; have BK256 := As_ (hbox); have hW_ := bel_ w hb (by repeat (first | (with_reducible first | exact HB.out | apply below_alloc | apply pw_below_drewN | apply below_drew1 | refine below_set ?_ GE238.out) | exact HB.out)); have GE256 := As_ (gesz hg hW_); have NB238_256 := As_ (ne_lt hg BK238.out); have NB256_238 := As_ (ne_gt hg BK238.out); replace BK238 := As_ (blk_b hb BK238.out); replace HB := As_ (below_step hW_ hb); clear hW_ hb hbox hg; have hnb49 := NB256_238.out; have hnc49 := NB238_256.out; obtain ⟨hcz50_0, hcz50_1, hcz50_2⟩ := c3_ (w := w48) BK256.out; obtain ⟨hfz50_0, hfz50_1, hfz50_2⟩ := z3_ BK256.out; obtain ⟨hcz51_0, hcz51_1, hcz51_2⟩ := c3_ (w := w48) BK238.out; obtain ⟨hfz51_0, hfz51_1, hfz51_2⟩ := z3_ BK238.out) | (go_at_call 95; (with_reducible refine (spec_cuCorners.calls k1 a2_0 a2_1 _ _ l2_2 ((rd_T87 l2_2 x63_1).f0) ((rd_T87 l2_2 x63_1).f1) t257 _ ?side1 ?side2 A46.out).mono ?_); (case side1 => exact Kd.C_below HR2_2.out (by repeat (first | (with_reducible first | exact HB.out | apply below_alloc | apply pw_below_drewN | apply below_drew1 | refine below_setA ?_ (by assumption)) | exact HB.out))); (case side2 => exact HC2_2.out); rintro e w52 ⟨rfl, hb⟩; replace BK238 := As_ (blk_below (g := gb238) (o := .cells #[.int .i64 a2_0, .int .i64 a2_1, .slice (some ad255) l2_2.length c2_2] 31 (0, 0)) (by (with_reducible repeat (first | refine blk_drewN ?_ _ | refine blk_drew ?_ | refine blk_alloc ?_ _)); refine blk_far ?_ NB238_256.out _; refine blk_far ?_ NB238_256.out _; refine blk_far ?_ NB238_256.out _; (with_reducible repeat (first | refine blk_drewN ?_ _ | refine blk_drew ?_ | refine blk_alloc ?_ _)); exact BK238.out) hb); replace BK256 := As_ (blk_below (g := gb256) (o := .cells #[.int .i64 ((rd_T87 l2_2 x63_1).f0), .int .i64 ((rd_T87 l2_2 x63_1).f1), .int .i64 ((rd_T87 l2_2 x63_1).f2)] 87 (0, 0)) (by (with_reducible repeat (first | refine blk_drewN ?_ _ | refine blk_drew ?_ | refine blk_alloc ?_ _)); refine blk_put (cs := #[.int .i64 ((rd_T87 l2_2 x63_1).f0), .int .i64 ((rd_T87 l2_2 x63_1).f1), .int .i64 0]) ?_ 2 _ rfl; refine blk_put (cs := #[.int .i64 ((rd_T87 l2_2 x63_1).f0), .int .i64 0, .int .i64 0]) ?_ 1 _ rfl; refine blk_put (cs := #[.int .i64 0, .int .i64 0, .int .i64 0]) ?_ 0 _ rfl; (with_reducible repeat (first | refine blk_drewN ?_ _ | refine blk_drew ?_ | refine blk_alloc ?_ _)); exact BK256.out) hb); replace HB := As_ (below_step (by repeat (first | (with_reducible first | exact HB.out | apply below_alloc | apply pw_below_drewN | apply below_drew1 | refine below_setA ?_ (by assumption)) | exact HB.out)) hb); (try clear hb)))
                      go_roundg k1
                      case measure => have := HK1.out; omega
                      case rel => exact ⟨(wrap64 (x7_1 + 1)), (wrap64 (x63_1 + 1)), (by first | rfl | (simp; done) | (simp [*]; done)), (by first | rfl | (simp; done) | (simp [*]; done)), H', ⟨by have := HK1.out; omega⟩, ⟨by (with_reducible repeat (first | refine blk_drewN ?_ _ | refine blk_drew ?_ | refine blk_alloc ?_ _)); exact BK238.out⟩, ⟨by repeat (first | (with_reducible first | exact HB.out | apply below_alloc | apply pw_below_drewN | apply below_drew1 | refine below_setA ?_ (by assumption)) | exact HB.out)⟩⟩
                    · rw [if_neg c47] at H
                      have c47b0 : (t257 == 4) = false := beq_eq_false_iff_ne.mpr c47
                      have c47b1 : (t257 != 4) = true := bne_iff_ne.mpr c47
                      have H' := As_ H
                      clear H
                      have p255 : 0 ≤ (x63_1 : Int) := of_decide_eq_true (by first | (with_reducible assumption) | assumption)
                      have q255 : x63_1 < (l2_2.length : Int) := of_decide_eq_true (by first | (with_reducible assumption) | assumption)
                      obtain ⟨ad255, e255, hx255_0, hx255_1, hx255_2⟩ := at_T87 HR2_2.out x63_1 p255 q255
                      cases e255
                      replace hx255_0 := (HB.out.cell (World.block_lt_of_cell? w _ hx255_0)).trans hx255_0
                      replace hx255_1 := (HB.out.cell (World.block_lt_of_cell? w _ hx255_1)).trans hx255_1
                      replace hx255_2 := (HB.out.cell (World.block_lt_of_cell? w _ hx255_2)).trans hx255_2
                      replace p255 := eq_true p255
                      replace q255 := eq_true q255
                      go_wp2_with (first | ((with_reducible refine gate_dst (N := 13) rfl ?_); refine box_event ?hg (N := 13) ?hd (cs := #[.int .i64 0, .int .i64 0, .int .i64 0]) (t := 87) ?hr ?_; (case hd => rfl); (case hg => rfl); (case hr => first | (go_simp; done) | (go_simp; rfl)); intro gb256 hg w53 hbox hb; have BK256 := As_ (hbox); have hW_ := bel_ w hb (by repeat (first | (with_reducible first | exact HB.out | apply below_alloc | apply pw_below_drewN | apply below_drew1 | refine below_set ?_ GE238.out) | exact HB.out)); have GE256 := As_ (gesz hg hW_); have NB238_256 := As_ (ne_lt hg BK238.out); have NB256_238 := As_ (ne_gt hg BK238.out); replace BK238 := As_ (blk_b hb BK238.out); replace HB := As_ (below_step hW_ hb); clear hW_ hb hbox hg; have hnb54 := NB256_238.out; have hnc54 := NB238_256.out; obtain ⟨hcz55_0, hcz55_1, hcz55_2⟩ := c3_ (w := w53) BK256.out; obtain ⟨hfz55_0, hfz55_1, hfz55_2⟩ := z3_ BK256.out; obtain ⟨hcz56_0, hcz56_1, hcz56_2⟩ := c3_ (w := w53) BK238.out; obtain ⟨hfz56_0, hfz56_1, hfz56_2⟩ := z3_ BK238.out) | (go_at_call 95; (with_reducible refine (spec_cuCorners.calls k1 a2_0 a2_1 _ _ l2_2 ((rd_T87 l2_2 x63_1).f0) ((rd_T87 l2_2 x63_1).f1) t257 _ ?side1 ?side2 A46.out).mono ?_); (case side1 => exact Kd.C_below HR2_2.out (by repeat (first | (with_reducible first | exact HB.out | apply below_alloc | apply pw_below_drewN | apply below_drew1 | refine below_setA ?_ (by assumption)) | exact HB.out))); (case side2 => exact HC2_2.out); rintro e w57 ⟨rfl, hb⟩; replace BK238 := As_ (blk_below (g := gb238) (o := .cells #[.int .i64 a2_0, .int .i64 a2_1, .slice (some ad255) l2_2.length c2_2] 31 (0, 0)) (by (with_reducible repeat (first | refine blk_drewN ?_ _ | refine blk_drew ?_ | refine blk_alloc ?_ _)); refine blk_far ?_ NB238_256.out _; refine blk_far ?_ NB238_256.out _; refine blk_far ?_ NB238_256.out _; (with_reducible repeat (first | refine blk_drewN ?_ _ | refine blk_drew ?_ | refine blk_alloc ?_ _)); exact BK238.out) hb); replace BK256 := As_ (blk_below (g := gb256) (o := .cells #[.int .i64 ((rd_T87 l2_2 x63_1).f0), .int .i64 ((rd_T87 l2_2 x63_1).f1), .int .i64 ((rd_T87 l2_2 x63_1).f2)] 87 (0, 0)) (by (with_reducible repeat (first | refine blk_drewN ?_ _ | refine blk_drew ?_ | refine blk_alloc ?_ _)); refine blk_put (cs := #[.int .i64 ((rd_T87 l2_2 x63_1).f0), .int .i64 ((rd_T87 l2_2 x63_1).f1), .int .i64 0]) ?_ 2 _ rfl; refine blk_put (cs := #[.int .i64 ((rd_T87 l2_2 x63_1).f0), .int .i64 0, .int .i64 0]) ?_ 1 _ rfl; refine blk_put (cs := #[.int .i64 0, .int .i64 0, .int .i64 0]) ?_ 0 _ rfl; (with_reducible repeat (first | refine blk_drewN ?_ _ | refine blk_drew ?_ | refine blk_alloc ?_ _)); exact BK256.out) hb); replace HB := As_ (below_step (by repeat (first | (with_reducible first | exact HB.out | apply below_alloc | apply pw_below_drewN | apply below_drew1 | refine below_setA ?_ (by assumption)) | exact HB.out)) hb); (try clear hb)))
                      go_roundg k1
                      case measure => have := HK1.out; omega
                      case rel => exact ⟨(x7_1), (wrap64 (x63_1 + 1)), (by first | rfl | (simp; done) | (simp [*]; done)), (by first | rfl | (simp; done) | (simp [*]; done)), H', ⟨by have := HK1.out; omega⟩, ⟨by (with_reducible repeat (first | refine blk_drewN ?_ _ | refine blk_drew ?_ | refine blk_alloc ?_ _)); exact BK238.out⟩, ⟨by repeat (first | (with_reducible first | exact HB.out | apply below_alloc | apply pw_below_drewN | apply below_drew1 | refine below_setA ?_ (by assumption)) | exact HB.out)⟩⟩
                  · rw [if_neg c45] at H
                    have c45b0 : (a0 == 4) = false := beq_eq_false_iff_ne.mpr c45
                    have c45b1 : (a0 != 4) = true := bne_iff_ne.mpr c45
                    have H' := As_ H
                    clear H
                    have p255 : 0 ≤ (x63_1 : Int) := of_decide_eq_true (by first | (with_reducible assumption) | assumption)
                    have q255 : x63_1 < (l2_2.length : Int) := of_decide_eq_true (by first | (with_reducible assumption) | assumption)
                    obtain ⟨ad255, e255, hx255_0, hx255_1, hx255_2⟩ := at_T87 HR2_2.out x63_1 p255 q255
                    cases e255
                    replace hx255_0 := (HB.out.cell (World.block_lt_of_cell? w _ hx255_0)).trans hx255_0
                    replace hx255_1 := (HB.out.cell (World.block_lt_of_cell? w _ hx255_1)).trans hx255_1
                    replace hx255_2 := (HB.out.cell (World.block_lt_of_cell? w _ hx255_2)).trans hx255_2
                    replace p255 := eq_true p255
                    replace q255 := eq_true q255
                    go_wp2_with (first | ((with_reducible refine gate_dst (N := 13) rfl ?_); refine box_event ?hg (N := 13) ?hd (cs := #[.int .i64 0, .int .i64 0, .int .i64 0]) (t := 87) ?hr ?_; (case hd => rfl); (case hg => rfl); (case hr => first | (go_simp; done) | (go_simp; rfl)); intro gb256 hg w58 hbox hb; have BK256 := As_ (hbox); have hW_ := bel_ w hb (by repeat (first | (with_reducible first | exact HB.out | apply below_alloc | apply pw_below_drewN | apply below_drew1 | refine below_set ?_ GE238.out) | exact HB.out)); have GE256 := As_ (gesz hg hW_); have NB238_256 := As_ (ne_lt hg BK238.out); have NB256_238 := As_ (ne_gt hg BK238.out); replace BK238 := As_ (blk_b hb BK238.out); replace HB := As_ (below_step hW_ hb); clear hW_ hb hbox hg; have hnb59 := NB256_238.out; have hnc59 := NB238_256.out; obtain ⟨hcz60_0, hcz60_1, hcz60_2⟩ := c3_ (w := w58) BK256.out; obtain ⟨hfz60_0, hfz60_1, hfz60_2⟩ := z3_ BK256.out))
                    go_roundg k1
                    case measure => have := HK1.out; omega
                    case rel => exact ⟨(x7_1), (wrap64 (x63_1 + 1)), (by first | rfl | (simp; done) | (simp [*]; done)), (by first | rfl | (simp; done) | (simp [*]; done)), H', ⟨by have := HK1.out; omega⟩, ⟨by (with_reducible repeat (first | refine blk_drewN ?_ _ | refine blk_drew ?_ | refine blk_alloc ?_ _)); refine blk_far ?_ NB238_256.out _; refine blk_far ?_ NB238_256.out _; refine blk_far ?_ NB238_256.out _; (with_reducible repeat (first | refine blk_drewN ?_ _ | refine blk_drew ?_ | refine blk_alloc ?_ _)); exact BK238.out⟩, ⟨by repeat (first | (with_reducible first | exact HB.out | apply below_alloc | apply pw_below_drewN | apply below_drew1 | refine below_setA ?_ (by assumption)) | exact HB.out)⟩⟩
              · rw [if_neg c40] at H
                have c40b0 : (a0 == 1) = false := beq_eq_false_iff_ne.mpr c40
                have c40b1 : (a0 != 1) = true := bne_iff_ne.mpr c40
                by_cases c61 : a0 = 4
                · rw [if_pos c61] at H
                  have c61b0 : (a0 == 4) = true := beq_iff_eq.mpr c61
                  have c61b1 : (a0 != 4) = false := bne_eq_false_iff_eq.mpr c61
                  clear c61
                  replace H := Option.bind_eq_some_iff.mp H
                  obtain ⟨t258, A620, H⟩ := H
                  try dsimp only at H
                  have A62 := As_ A620
                  clear A620
                  by_cases c63 : t258 = 4
                  · rw [if_pos c63] at H
                    have c63b0 : (t258 == 4) = true := beq_iff_eq.mpr c63
                    have c63b1 : (t258 != 4) = false := bne_eq_false_iff_eq.mpr c63
                    clear c63
                    have H' := As_ H
                    clear H
                    have p255 : 0 ≤ (x63_1 : Int) := of_decide_eq_true (by first | (with_reducible assumption) | assumption)
                    have q255 : x63_1 < (l2_2.length : Int) := of_decide_eq_true (by first | (with_reducible assumption) | assumption)
                    obtain ⟨ad255, e255, hx255_0, hx255_1, hx255_2⟩ := at_T87 HR2_2.out x63_1 p255 q255
                    cases e255
                    replace hx255_0 := (HB.out.cell (World.block_lt_of_cell? w _ hx255_0)).trans hx255_0
                    replace hx255_1 := (HB.out.cell (World.block_lt_of_cell? w _ hx255_1)).trans hx255_1
                    replace hx255_2 := (HB.out.cell (World.block_lt_of_cell? w _ hx255_2)).trans hx255_2
                    replace p255 := eq_true p255
                    replace q255 := eq_true q255
                    go_wp2_with (first | ((with_reducible refine gate_dst (N := 13) rfl ?_); refine box_event ?hg (N := 13) ?hd (cs := #[.int .i64 0, .int .i64 0, .int .i64 0]) (t := 87) ?hr ?_; (case hd => rfl); (case hg => rfl); (case hr => first | (go_simp; done) | (go_simp; rfl)); intro gb256 hg w64 hbox hb; have BK256 := As_ (hbox); have hW_ := bel_ w hb (by repeat (first | (with_reducible first | exact HB.out | apply below_alloc | apply pw_below_drewN | apply below_drew1 | refine below_set ?_ GE238.out) | exact HB.out)); have GE256 := As_ (gesz hg hW_); have NB238_256 := As_ (ne_lt hg BK238.out); have NB256_238 := As_ (ne_gt hg BK238.out); replace BK238 := As_ (blk_b hb BK238.out); replace HB := As_ (below_step hW_ hb); clear hW_ hb hbox hg; have hnb65 := NB256_238.out; have hnc65 := NB238_256.out; obtain ⟨hcz66_0, hcz66_1, hcz66_2⟩ := c3_ (w := w64) BK256.out; obtain ⟨hfz66_0, hfz66_1, hfz66_2⟩ := z3_ BK256.out; obtain ⟨hcz67_0, hcz67_1, hcz67_2⟩ := c3_ (w := w64) BK238.out; obtain ⟨hfz67_0, hfz67_1, hfz67_2⟩ := z3_ BK238.out) | (go_at_call 95; (with_reducible refine (spec_cuCorners.calls k1 a2_0 a2_1 _ _ l2_2 ((rd_T87 l2_2 x63_1).f0) ((rd_T87 l2_2 x63_1).f1) t258 _ ?side1 ?side2 A62.out).mono ?_); (case side1 => exact Kd.C_below HR2_2.out (by repeat (first | (with_reducible first | exact HB.out | apply below_alloc | apply pw_below_drewN | apply below_drew1 | refine below_setA ?_ (by assumption)) | exact HB.out))); (case side2 => exact HC2_2.out); rintro e w68 ⟨rfl, hb⟩; replace BK238 := As_ (blk_below (g := gb238) (o := .cells #[.int .i64 a2_0, .int .i64 a2_1, .slice (some ad255) l2_2.length c2_2] 31 (0, 0)) (by (with_reducible repeat (first | refine blk_drewN ?_ _ | refine blk_drew ?_ | refine blk_alloc ?_ _)); refine blk_far ?_ NB238_256.out _; refine blk_far ?_ NB238_256.out _; refine blk_far ?_ NB238_256.out _; (with_reducible repeat (first | refine blk_drewN ?_ _ | refine blk_drew ?_ | refine blk_alloc ?_ _)); exact BK238.out) hb); replace BK256 := As_ (blk_below (g := gb256) (o := .cells #[.int .i64 ((rd_T87 l2_2 x63_1).f0), .int .i64 ((rd_T87 l2_2 x63_1).f1), .int .i64 ((rd_T87 l2_2 x63_1).f2)] 87 (0, 0)) (by (with_reducible repeat (first | refine blk_drewN ?_ _ | refine blk_drew ?_ | refine blk_alloc ?_ _)); refine blk_put (cs := #[.int .i64 ((rd_T87 l2_2 x63_1).f0), .int .i64 ((rd_T87 l2_2 x63_1).f1), .int .i64 0]) ?_ 2 _ rfl; refine blk_put (cs := #[.int .i64 ((rd_T87 l2_2 x63_1).f0), .int .i64 0, .int .i64 0]) ?_ 1 _ rfl; refine blk_put (cs := #[.int .i64 0, .int .i64 0, .int .i64 0]) ?_ 0 _ rfl; (with_reducible repeat (first | refine blk_drewN ?_ _ | refine blk_drew ?_ | refine blk_alloc ?_ _)); exact BK256.out) hb); replace HB := As_ (below_step (by repeat (first | (with_reducible first | exact HB.out | apply below_alloc | apply pw_below_drewN | apply below_drew1 | refine below_setA ?_ (by assumption)) | exact HB.out)) hb); (try clear hb)))
                    go_roundg k1
                    case measure => have := HK1.out; omega
                    case rel => exact ⟨(wrap64 (x7_1 + 1)), (wrap64 (x63_1 + 1)), (by first | rfl | (simp; done) | (simp [*]; done)), (by first | rfl | (simp; done) | (simp [*]; done)), H', ⟨by have := HK1.out; omega⟩, ⟨by (with_reducible repeat (first | refine blk_drewN ?_ _ | refine blk_drew ?_ | refine blk_alloc ?_ _)); exact BK238.out⟩, ⟨by repeat (first | (with_reducible first | exact HB.out | apply below_alloc | apply pw_below_drewN | apply below_drew1 | refine below_setA ?_ (by assumption)) | exact HB.out)⟩⟩
                  · rw [if_neg c63] at H
                    have c63b0 : (t258 == 4) = false := beq_eq_false_iff_ne.mpr c63
                    have c63b1 : (t258 != 4) = true := bne_iff_ne.mpr c63
                    have H' := As_ H
                    clear H
                    have p255 : 0 ≤ (x63_1 : Int) := of_decide_eq_true (by first | (with_reducible assumption) | assumption)
                    have q255 : x63_1 < (l2_2.length : Int) := of_decide_eq_true (by first | (with_reducible assumption) | assumption)
                    obtain ⟨ad255, e255, hx255_0, hx255_1, hx255_2⟩ := at_T87 HR2_2.out x63_1 p255 q255
                    cases e255
                    replace hx255_0 := (HB.out.cell (World.block_lt_of_cell? w _ hx255_0)).trans hx255_0
                    replace hx255_1 := (HB.out.cell (World.block_lt_of_cell? w _ hx255_1)).trans hx255_1
                    replace hx255_2 := (HB.out.cell (World.block_lt_of_cell? w _ hx255_2)).trans hx255_2
                    replace p255 := eq_true p255
                    replace q255 := eq_true q255
                    go_wp2_with (first | ((with_reducible refine gate_dst (N := 13) rfl ?_); refine box_event ?hg (N := 13) ?hd (cs := #[.int .i64 0, .int .i64 0, .int .i64 0]) (t := 87) ?hr ?_; (case hd => rfl); (case hg => rfl); (case hr => first | (go_simp; done) | (go_simp; rfl)); intro gb256 hg w69 hbox hb; have BK256 := As_ (hbox); have hW_ := bel_ w hb (by repeat (first | (with_reducible first | exact HB.out | apply below_alloc | apply pw_below_drewN | apply below_drew1 | refine below_set ?_ GE238.out) | exact HB.out)); have GE256 := As_ (gesz hg hW_); have NB238_256 := As_ (ne_lt hg BK238.out); have NB256_238 := As_ (ne_gt hg BK238.out); replace BK238 := As_ (blk_b hb BK238.out); replace HB := As_ (below_step hW_ hb); clear hW_ hb hbox hg; have hnb70 := NB256_238.out; have hnc70 := NB238_256.out; obtain ⟨hcz71_0, hcz71_1, hcz71_2⟩ := c3_ (w := w69) BK256.out; obtain ⟨hfz71_0, hfz71_1, hfz71_2⟩ := z3_ BK256.out; obtain ⟨hcz72_0, hcz72_1, hcz72_2⟩ := c3_ (w := w69) BK238.out; obtain ⟨hfz72_0, hfz72_1, hfz72_2⟩ := z3_ BK238.out) | (go_at_call 95; (with_reducible refine (spec_cuCorners.calls k1 a2_0 a2_1 _ _ l2_2 ((rd_T87 l2_2 x63_1).f0) ((rd_T87 l2_2 x63_1).f1) t258 _ ?side1 ?side2 A62.out).mono ?_); (case side1 => exact Kd.C_below HR2_2.out (by repeat (first | (with_reducible first | exact HB.out | apply below_alloc | apply pw_below_drewN | apply below_drew1 | refine below_setA ?_ (by assumption)) | exact HB.out))); (case side2 => exact HC2_2.out); rintro e w73 ⟨rfl, hb⟩; replace BK238 := As_ (blk_below (g := gb238) (o := .cells #[.int .i64 a2_0, .int .i64 a2_1, .slice (some ad255) l2_2.length c2_2] 31 (0, 0)) (by (with_reducible repeat (first | refine blk_drewN ?_ _ | refine blk_drew ?_ | refine blk_alloc ?_ _)); refine blk_far ?_ NB238_256.out _; refine blk_far ?_ NB238_256.out _; refine blk_far ?_ NB238_256.out _; (with_reducible repeat (first | refine blk_drewN ?_ _ | refine blk_drew ?_ | refine blk_alloc ?_ _)); exact BK238.out) hb); replace BK256 := As_ (blk_below (g := gb256) (o := .cells #[.int .i64 ((rd_T87 l2_2 x63_1).f0), .int .i64 ((rd_T87 l2_2 x63_1).f1), .int .i64 ((rd_T87 l2_2 x63_1).f2)] 87 (0, 0)) (by (with_reducible repeat (first | refine blk_drewN ?_ _ | refine blk_drew ?_ | refine blk_alloc ?_ _)); refine blk_put (cs := #[.int .i64 ((rd_T87 l2_2 x63_1).f0), .int .i64 ((rd_T87 l2_2 x63_1).f1), .int .i64 0]) ?_ 2 _ rfl; refine blk_put (cs := #[.int .i64 ((rd_T87 l2_2 x63_1).f0), .int .i64 0, .int .i64 0]) ?_ 1 _ rfl; refine blk_put (cs := #[.int .i64 0, .int .i64 0, .int .i64 0]) ?_ 0 _ rfl; (with_reducible repeat (first | refine blk_drewN ?_ _ | refine blk_drew ?_ | refine blk_alloc ?_ _)); exact BK256.out) hb); replace HB := As_ (below_step (by repeat (first | (with_reducible first | exact HB.out | apply below_alloc | apply pw_below_drewN | apply below_drew1 | refine below_setA ?_ (by assumption)) | exact HB.out)) hb); (try clear hb)))
                    go_roundg k1
                    case measure => have := HK1.out; omega
                    case rel => exact ⟨(x7_1), (wrap64 (x63_1 + 1)), (by first | rfl | (simp; done) | (simp [*]; done)), (by first | rfl | (simp; done) | (simp [*]; done)), H', ⟨by have := HK1.out; omega⟩, ⟨by (with_reducible repeat (first | refine blk_drewN ?_ _ | refine blk_drew ?_ | refine blk_alloc ?_ _)); exact BK238.out⟩, ⟨by repeat (first | (with_reducible first | exact HB.out | apply below_alloc | apply pw_below_drewN | apply below_drew1 | refine below_setA ?_ (by assumption)) | exact HB.out)⟩⟩
                · rw [if_neg c61] at H
                  have c61b0 : (a0 == 4) = false := beq_eq_false_iff_ne.mpr c61
                  have c61b1 : (a0 != 4) = true := bne_iff_ne.mpr c61
                  have H' := As_ H
                  clear H
                  have p255 : 0 ≤ (x63_1 : Int) := of_decide_eq_true (by first | (with_reducible assumption) | assumption)
                  have q255 : x63_1 < (l2_2.length : Int) := of_decide_eq_true (by first | (with_reducible assumption) | assumption)
                  obtain ⟨ad255, e255, hx255_0, hx255_1, hx255_2⟩ := at_T87 HR2_2.out x63_1 p255 q255
                  cases e255
                  replace hx255_0 := (HB.out.cell (World.block_lt_of_cell? w _ hx255_0)).trans hx255_0
                  replace hx255_1 := (HB.out.cell (World.block_lt_of_cell? w _ hx255_1)).trans hx255_1
                  replace hx255_2 := (HB.out.cell (World.block_lt_of_cell? w _ hx255_2)).trans hx255_2
                  replace p255 := eq_true p255
                  replace q255 := eq_true q255
                  go_wp2_with (first | ((with_reducible refine gate_dst (N := 13) rfl ?_); refine box_event ?hg (N := 13) ?hd (cs := #[.int .i64 0, .int .i64 0, .int .i64 0]) (t := 87) ?hr ?_; (case hd => rfl); (case hg => rfl); (case hr => first | (go_simp; done) | (go_simp; rfl)); intro gb256 hg w74 hbox hb; have BK256 := As_ (hbox); have hW_ := bel_ w hb (by repeat (first | (with_reducible first | exact HB.out | apply below_alloc | apply pw_below_drewN | apply below_drew1 | refine below_set ?_ GE238.out) | exact HB.out)); have GE256 := As_ (gesz hg hW_); have NB238_256 := As_ (ne_lt hg BK238.out); have NB256_238 := As_ (ne_gt hg BK238.out); replace BK238 := As_ (blk_b hb BK238.out); replace HB := As_ (below_step hW_ hb); clear hW_ hb hbox hg; have hnb75 := NB256_238.out; have hnc75 := NB238_256.out; obtain ⟨hcz76_0, hcz76_1, hcz76_2⟩ := c3_ (w := w74) BK256.out; obtain ⟨hfz76_0, hfz76_1, hfz76_2⟩ := z3_ BK256.out))
                  go_roundg k1
                  case measure => have := HK1.out; omega
                  case rel => exact ⟨(x7_1), (wrap64 (x63_1 + 1)), (by first | rfl | (simp; done) | (simp [*]; done)), (by first | rfl | (simp; done) | (simp [*]; done)), H', ⟨by have := HK1.out; omega⟩, ⟨by (with_reducible repeat (first | refine blk_drewN ?_ _ | refine blk_drew ?_ | refine blk_alloc ?_ _)); refine blk_far ?_ NB238_256.out _; refine blk_far ?_ NB238_256.out _; refine blk_far ?_ NB238_256.out _; (with_reducible repeat (first | refine blk_drewN ?_ _ | refine blk_drew ?_ | refine blk_alloc ?_ _)); exact BK238.out⟩, ⟨by repeat (first | (with_reducible first | exact HB.out | apply below_alloc | apply pw_below_drewN | apply below_drew1 | refine below_setA ?_ (by assumption)) | exact HB.out)⟩⟩
            · rw [if_neg c37] at H
              have c37b0 : decide (x63_1 < (l2_2.length : Int)) = false := decide_eq_false c37
              clear c37
              obtain rfl := Option.some.inj H
              go_wp2
              go_ret
              exact ⟨by first | rfl | (simp [errW_none, errW_some] <;> rfl) | (simp [*, errW_none, errW_some] <;> rfl), by repeat (first | (with_reducible first | exact HB.out | apply below_alloc | apply pw_below_drewN | apply below_drew1 | refine below_set ?_ GE238.out) | exact HB.out)⟩

end Go.Proofs.Ytipiaiolhhnnhaa.PFnExactDoesFit
