-- Written by a program of this session (wip/tools/pg.py) out of the translation.
import Derived.Test.YtipiaiolhhnnhaaPFnExactMakePuzzlex0
import Derived.Test.YtipiaiolhhnnhaaPFnExactMakePuzzlex4
import Derived.Test.YtipiaiolhhnnhaaPFnExactMakePuzzlex5
import Derived.Test.YtipiaiolhhnnhaaPFnExactMakePuzzlex6
import Derived.Test.YtipiaiolhhnnhaaPFnExactMakePuzzlex8
namespace Go.Proofs.Ytipiaiolhhnnhaa.PFnExactMakePuzzle
open Go.RowKit Go.Proofs.YtipiaiolhhnnhaaW.PrintWords Go.Proofs.YtipiaiolhhnnhaaW.PrintLast Go.Proofs.YtipiaiolhhnnhaaW.PrintMore Go.Proofs.YtipiaiolhhnnhaaH
attribute [local go_sem] max2_int min2_int max_two min_two max_three min_three max_four min_four   -- for this text's walks alone
set_option linter.unusedVariables false
set_option linter.unusedSimpArgs false

/-! ### spec_pzValue: function 70 -/
def spec_pzValue.l0 : Nat → Int → Int → Int → List (S87) → Int → Int → Int → Int → List (S87) → Option (Int)
 | 0, _, _, _, _, _, _, _, _, _ => none
 | k + 1, x0, x1, x7, x61, x62, x63, x235000, x235001, x235002 => if x63 < x62 then (if 0 ≤ x63 then (if x63 < (x61.length : Int) then (if x0 = 1 then (if ((rd_T87 x61 x63).f2) = x1 then (spec_pzValue.l0 k x0 x1 (wrap64 (x7 + 1)) x61 x62 (wrap64 (x63 + 1)) x235000 x235001 x235002) else (if x0 = 4 then ((spec_cuCorners.f k x235000 x235001 x235002 ((rd_T87 x61 x63).f0) ((rd_T87 x61 x63).f1)).bind fun t253 => (if t253 = 4 then (spec_pzValue.l0 k x0 x1 (wrap64 (x7 + 1)) x61 x62 (wrap64 (x63 + 1)) x235000 x235001 x235002) else (spec_pzValue.l0 k x0 x1 x7 x61 x62 (wrap64 (x63 + 1)) x235000 x235001 x235002))) else (spec_pzValue.l0 k x0 x1 x7 x61 x62 (wrap64 (x63 + 1)) x235000 x235001 x235002))) else (if x0 = 4 then ((spec_cuCorners.f k x235000 x235001 x235002 ((rd_T87 x61 x63).f0) ((rd_T87 x61 x63).f1)).bind fun t254 => (if t254 = 4 then (spec_pzValue.l0 k x0 x1 (wrap64 (x7 + 1)) x61 x62 (wrap64 (x63 + 1)) x235000 x235001 x235002) else (spec_pzValue.l0 k x0 x1 x7 x61 x62 (wrap64 (x63 + 1)) x235000 x235001 x235002))) else (spec_pzValue.l0 k x0 x1 x7 x61 x62 (wrap64 (x63 + 1)) x235000 x235001 x235002))) else (none)) else (none)) else (some x7)
def spec_pzValue.f (k : Nat) (a0 : Int) (a1 : Int) (a2_0 : Int) (a2_1 : Int) (l2_2 : List (S87)) : Option (Int) := if a0 = 0 then (some (l2_2.length : Int)) else (if a0 = 2 then (if a2_0 = 0 then (none) else ((spec_SquareAt.f k a2_0 a2_1 l2_2 (Int.tmod a1 a2_0) (wrap64 (Int.tdiv a1 a2_0))).bind fun bt235 => (if 0 ≤ bt235.1 then (if bt235.1 < (l2_2.length : Int) then (some ((rd_T87 l2_2 bt235.1).f2)) else (none)) else (none)))) else (if a0 = 3 then ((spec_SquaresAtEdges.f k a2_0 a2_1 l2_2).bind fun bt238 => (if 0 ≤ a1 then (if a1 < (bt238.1.length : Int) then (some (rd bt238.1 a1)) else (none)) else (none))) else (if a0 = 5 then ((spec_cuLine.f k a2_0 a2_1 l2_2).bind fun t243 => ((spec_cuTurn.f k a2_0 a2_1 l2_2).bind fun bt244 => ((spec_cuLine.f k bt244.1 bt244.2.1 bt244.2.2).bind fun t249 => ((spec_l1Most.f t243 t249).bind fun t250 => (some t250))))) else (spec_pzValue.l0 k a0 a1 0 l2_2 (l2_2.length : Int) 0 a2_0 a2_1 l2_2))))
theorem spec_pzValue.mono_l : ∀ k, (∀ y0 y1 y2 y3 y4 y5 y6 y7 y8, LeO (spec_pzValue.l0 k y0 y1 y2 y3 y4 y5 y6 y7 y8) (spec_pzValue.l0 (k + 1) y0 y1 y2 y3 y4 y5 y6 y7 y8))
 | 0 => fun _ _ _ _ _ _ _ _ _ r h => by simp [spec_pzValue.l0] at h
 | k + 1 => by
  have ih0 := spec_pzValue.mono_l k
  ·
   intro y0 y1 y2 y3 y4 y5 y6 y7 y8
   unfold spec_pzValue.l0
   repeat' first
   | (with_reducible exact ih0 _ _ _ _ _ _ _ _ _)
   | (with_reducible exact spec_SquareAt.mono _ _ _ _ _ _)
   | (with_reducible exact spec_SquaresAtEdges.mono _ _ _ _)
   | (with_reducible exact spec_cuCorners.mono _ _ _ _ _ _)
   | (with_reducible exact spec_cuLine.mono _ _ _ _)
   | (with_reducible exact spec_cuTurn.mono _ _ _ _)
   | (with_reducible exact LeO.refl _)
   | (with_reducible exact LeO.none _)
   | (with_reducible refine LeO.ite ?_ ?_)
   | (with_reducible refine LeO.bind ?_ (fun _ => ?_))
   | exact ih0 _ _ _ _ _ _ _ _ _
   | exact spec_SquareAt.mono _ _ _ _ _ _
   | exact spec_SquaresAtEdges.mono _ _ _ _
   | exact spec_cuCorners.mono _ _ _ _ _ _
   | exact spec_cuLine.mono _ _ _ _
   | exact spec_cuTurn.mono _ _ _ _
   | exact LeO.none _
   | refine LeO.ite ?_ ?_
   | refine LeO.bind ?_ (fun _ => ?_)
theorem spec_pzValue.mono : ∀ a0 a1 a2 a3 a4 k, LeO (spec_pzValue.f k a0 a1 a2 a3 a4) (spec_pzValue.f (k + 1) a0 a1 a2 a3 a4) := by
 intro a0 a1 a2 a3 a4 k
 have ih0 := spec_pzValue.mono_l k
 unfold spec_pzValue.f
 repeat' first
   | (with_reducible exact ih0 _ _ _ _ _ _ _ _ _)
   | (with_reducible exact spec_SquareAt.mono _ _ _ _ _ _)
   | (with_reducible exact spec_SquaresAtEdges.mono _ _ _ _)
   | (with_reducible exact spec_cuCorners.mono _ _ _ _ _ _)
   | (with_reducible exact spec_cuLine.mono _ _ _ _)
   | (with_reducible exact spec_cuTurn.mono _ _ _ _)
   | (with_reducible exact LeO.refl _)
   | (with_reducible exact LeO.none _)
   | (with_reducible refine LeO.ite ?_ ?_)
   | (with_reducible refine LeO.bind ?_ (fun _ => ?_))
   | exact ih0 _ _ _ _ _ _ _ _ _
   | exact spec_SquareAt.mono _ _ _ _ _ _
   | exact spec_SquaresAtEdges.mono _ _ _ _
   | exact spec_cuCorners.mono _ _ _ _ _ _
   | exact spec_cuLine.mono _ _ _ _
   | exact spec_cuTurn.mono _ _ _ _
   | exact LeO.none _
   | refine LeO.ite ?_ ?_
   | refine LeO.bind ?_ (fun _ => ?_)
def spec_pzValue.T6 : Bool × List (List Nat × List Nat) := (true, [([], []), ([], []), ([], []), ([2], [2]), ([1, 3], [1, 3]), ([], []), ([], []), ([6], [6]), ([5, 7], [5, 7]), ([0, 4, 8], [0, 4, 8]), ([9], [9]), ([10], [10]), ([10], [10]), ([11, 9, 0, 1, 2, 3, 4, 5, 6, 7, 8, 9, 10, 11], [11]), ([12, 13, 0, 1, 2, 3, 4, 5, 6, 7, 8, 9, 10, 11, 12, 13], [12])])
def spec_pzValue.B6 : List Nat := [0, 0, 0, 4, 14, 0, 0, 64, 224, 511, 1023, 2047, 2047, 4095, 16383]
theorem spec_pzValue.tab6 : rtab .any (opsOf Try.f70 6) = spec_pzValue.T6 := by kernel_rfl
theorem spec_pzValue.bits6 : waitsOk spec_pzValue.T6.2 spec_pzValue.B6 = true := by kernel_rfl
set_option maxHeartbeats 8000000 in
set_option maxRecDepth 100000 in
theorem spec_pzValue.calls (k : Nat) (a0 : Int) (a1 : Int) (a2_0 : Int) (a2_1 : Int) (A2_2 : Option Addr) (c2_2 : Nat) (l2_2 : List (S87)) (r : Int) (w : World) (hr2_2 : Kd.C k87 w A2_2 l2_2.length l2_2) (hc2_2 : l2_2.length ≤ c2_2) (h : spec_pzValue.f k a0 a1 a2_0 a2_1 l2_2 = some r) :
  Calls Try.prog 70 #[.int .i64 a0, .int .i64 a1, .agg #[.int .i64 a2_0, .int .i64 a2_1, .slice A2_2 l2_2.length c2_2]] w fun e w' => e = .returned (.int .i64 r) ∧ Below w.heap.size w w' := by
 have hu31 := Try.underlying31
 have hu87 := Try.underlying87
 have HR2_2 := As_ hr2_2
 have HC2_2 := As_ hc2_2
 clear hr2_2 hc2_2
 have HB := As_ (Below.refl w.heap.size w)
 have H : (if a0 = 0 then (some (l2_2.length : Int)) else (if a0 = 2 then (if a2_0 = 0 then (none) else ((spec_SquareAt.f k a2_0 a2_1 l2_2 (Int.tmod a1 a2_0) (wrap64 (Int.tdiv a1 a2_0))).bind fun bt235 => (if 0 ≤ bt235.1 then (if bt235.1 < (l2_2.length : Int) then (some ((rd_T87 l2_2 bt235.1).f2)) else (none)) else (none)))) else (if a0 = 3 then ((spec_SquaresAtEdges.f k a2_0 a2_1 l2_2).bind fun bt238 => (if 0 ≤ a1 then (if a1 < (bt238.1.length : Int) then (some (rd bt238.1 a1)) else (none)) else (none))) else (if a0 = 5 then ((spec_cuLine.f k a2_0 a2_1 l2_2).bind fun t243 => ((spec_cuTurn.f k a2_0 a2_1 l2_2).bind fun bt244 => ((spec_cuLine.f k bt244.1 bt244.2.1 bt244.2.2).bind fun t249 => ((spec_l1Most.f t243 t249).bind fun t250 => (some t250))))) else (spec_pzValue.l0 k a0 a1 0 l2_2 (l2_2.length : Int) 0 a2_0 a2_1 l2_2))))) = some r := h
 clear h
 by_cases c4 : a0 = 0
 ·
  rw [if_pos c4] at H
  have c4b0 : (a0 == 0) = true := beq_iff_eq.mpr c4
  have c4b1 : (a0 != 0) = false := bne_eq_false_iff_eq.mpr c4
  clear c4
  obtain rfl := Option.some.inj H
  go_enter Try.func70, Try.ntmps70
  go_wp2_with (first | ((with_reducible refine gate_dst (N := 5) rfl ?_); refine box_event rfl (N := 5) rfl (cs := #[.int .i64 a2_0, .int .i64 a2_1, .slice A2_2 l2_2.length c2_2]) (t := 31) ?hr ?_; (case hr => first | (go_simp; done) | (go_simp; rfl)); intro gb234 hg w5 hbox hb; have BK234 := As_ (hbox); have hW_ := bel_ w hb (by repeat (first | (with_reducible first | exact HB.out | apply ba_ | apply bn_ | apply bd_) | exact HB.out)); have GE234 := As_ (gesz hg hW_); replace HB := As_ (below_step hW_ hb); clear hW_ hb hbox hg; obtain ⟨hcz6_0, hcz6_1, hcz6_2⟩ := c3_ (w := w5) BK234.out; obtain ⟨hfz6_0, hfz6_1, hfz6_2⟩ := z3_ BK234.out))
  go_ret
  exact ⟨by first | rfl | (simp <;> rfl) | (simp [*] <;> rfl), by repeat (first | (with_reducible first | exact HB.out | apply ba_ | apply bn_ | apply bd_ | refine bs_ ?_ GE234.out) | exact HB.out)⟩
 ·
  rw [if_neg c4] at H
  have c4b0 : (a0 == 0) = false := beq_eq_false_iff_ne.mpr c4
  have c4b1 : (a0 != 0) = true := bne_iff_ne.mpr c4
  by_cases c7 : a0 = 2
  ·
   rw [if_pos c7] at H
   have c7b0 : (a0 == 2) = true := beq_iff_eq.mpr c7
   have c7b1 : (a0 != 2) = false := bne_eq_false_iff_eq.mpr c7
   clear c7
   by_cases c8 : a2_0 = 0
   · rw [if_pos c8] at H; exact absurd H (by simp)
   rw [if_neg c8] at H
   have c8b0 : (a2_0 == 0) = false := beq_eq_false_iff_ne.mpr c8
   have c8b1 : (a2_0 != 0) = true := bne_iff_ne.mpr c8
   replace H := Option.bind_eq_some_iff.mp H
   obtain ⟨⟨t235, t236⟩, A90, H⟩ := H
   try dsimp only at H
   have A9 := As_ A90
   clear A90
   by_cases c10 : 0 ≤ t235
   case neg => rw [if_neg c10] at H; exact absurd H (by simp)
   rw [if_pos c10] at H
   have c10b0 : decide (0 ≤ t235) = true := decide_eq_true c10
   clear c10
   by_cases c11 : t235 < (l2_2.length : Int)
   case neg => rw [if_neg c11] at H; exact absurd H (by simp)
   rw [if_pos c11] at H
   have c11b0 : decide (t235 < (l2_2.length : Int)) = true := decide_eq_true c11
   clear c11
   obtain rfl := Option.some.inj H
   go_enter Try.func70, Try.ntmps70
   try go_wp2_with (first | ((with_reducible refine gate_dst (N := 5) rfl ?_); refine box_event rfl (N := 5) rfl (cs := #[.int .i64 a2_0, .int .i64 a2_1, .slice A2_2 l2_2.length c2_2]) (t := 31) ?hr ?_; (case hr => first | (go_simp; done) | (go_simp; rfl)); intro gb234 hg w12 hbox hb; have BK234 := As_ (hbox); have hW_ := bel_ w hb (by repeat (first | (with_reducible first | exact HB.out | apply ba_ | apply bn_ | apply bd_) | exact HB.out)); have GE234 := As_ (gesz hg hW_); replace HB := As_ (below_step hW_ hb); clear hW_ hb hbox hg))
   replace BK234 := As_ (blk_drew BK234.out)
   replace HB := As_ (below_drew1 HB.out)
   refine start_ (n := 15) (S := fun w' => w'.cell? ⟨gb234, 0, none⟩ = some (.int .i64 a2_0) ∧ w'.cell? ⟨gb234, 1, none⟩ = some (.int .i64 a2_1) ∧ w'.cell? ⟨gb234, 2, none⟩ = some (.slice A2_2 l2_2.length c2_2)) (ds := []) #[false, false, false, false, false, false, false, false, false, false, false, false, false, false, false] (by kernel_rfl) rfl rfl ⟨(blk_cell BK234.out 0).trans rfl, (blk_cell BK234.out 1).trans rfl, (blk_cell BK234.out 2).trans rfl⟩ (fun hHeld => ?_); refine with_tabW spec_pzValue.tab6 spec_pzValue.bits6 (fun HT_ HW_ => ?_)
   generalize w12.drew = w13 at BK234 HB hHeld ⊢
   refine pu_ (v := ?_) (a' := ?_) 1 (some 24) #[false, true, false, false, false, false, false, false, false, false, false, false, false, false, false] rfl rfl (any_of HT_.out (by kernel_rfl)) (fun _ _ _ h => h) (.inl ⟨by rfl, ?_⟩) ?_ ?_; rotate_left
   · intro w'; go_simp; with_reducible rfl
   rotate_left
   · simp only [Act.put, sib_, sc0_, sc1_, i64_w, i32_w]; rfl
   refine pu_ (v := ?_) (a' := ?_) 2 (some 25) #[false, true, true, false, false, false, false, false, false, false, false, false, false, false, false] rfl rfl (any_of HT_.out (by kernel_rfl)) (fun _ _ _ h => h) (.inl ⟨by rfl, ?_⟩) ?_ ?_; rotate_left
   · intro w'; go_simp; with_reducible rfl
   rotate_left
   · simp only [Act.put, sib_, sc0_, sc1_, i64_w, i32_w]; rfl
   refine pu_ (v := ?_) (a' := ?_) 5 (some 28) #[false, true, true, false, false, true, false, false, false, false, false, false, false, false, false] rfl rfl (any_of HT_.out (by kernel_rfl)) (fun _ _ _ h => h) (.inl ⟨by rfl, ?_⟩) ?_ ?_; rotate_left
   · intro w'; go_simp; with_reducible rfl
   rotate_left
   · simp only [Act.put, sib_, sc0_, sc1_, i64_w, i32_w]; rfl
   refine pu_ (v := ?_) (a' := ?_) 6 (some 29) #[false, true, true, false, false, true, true, false, false, false, false, false, false, false, false] rfl rfl (any_of HT_.out (by kernel_rfl)) (fun _ _ _ h => h) (.inl ⟨by rfl, ?_⟩) ?_ ?_; rotate_left
   · intro w'; go_simp; with_reducible rfl
   rotate_left
   · simp only [Act.put, sib_, sc0_, sc1_, i64_w, i32_w]; rfl
   refine take_ (i := 0) (N := some 23) (v := ?_) (a' := ?_) #[true, true, true, false, false, true, true, false, false, false, false, false, false, false, false] rfl rfl (take_ofW HT_.out HW_.out (by kernel_rfl)) (fun _ _ _ h => h) (Or.inl ⟨by rfl, ?_⟩) hHeld ?_ ?_; rotate_left
   ·
    rintro w' ⟨s0, s1, s2⟩
    go_simp
    with_reducible rfl
   rotate_left
   · simp only [Act.put, sib_, sc0_, sc1_, i64_w, i32_w]; rfl
   refine take_ (i := 3) (N := some 26) (v := ?_) (a' := ?_) #[true, true, true, true, false, true, true, false, false, false, false, false, false, false, false] rfl rfl (take_ofW HT_.out HW_.out (by kernel_rfl)) (fun _ _ _ h => h) (Or.inl ⟨by rfl, ?_⟩) hHeld ?_ ?_; rotate_left
   ·
    rintro w' ⟨s0, s1, s2⟩
    go_simp
    with_reducible rfl
   rotate_left
   · simp only [Act.put, sib_, sc0_, sc1_, i64_w, i32_w]; rfl
   refine pu_ (v := ?_) (a' := ?_) 4 (some 27) #[true, true, true, true, true, true, true, false, false, false, false, false, false, false, false] rfl rfl (any_of HT_.out (by kernel_rfl)) (fun _ _ _ h => h) (.inl ⟨by rfl, ?_⟩) ?_ ?_; rotate_left
   · intro w'; go_simp; with_reducible rfl
   rotate_left
   · simp only [Act.put, sib_, sc0_, sc1_, i64_w, i32_w]; rfl
   refine take_ (i := 7) (N := some 30) (v := ?_) (a' := ?_) #[true, true, true, true, true, true, true, true, false, false, false, false, false, false, false] rfl rfl (take_ofW HT_.out HW_.out (by kernel_rfl)) (fun _ _ _ h => h) (Or.inl ⟨by rfl, ?_⟩) hHeld ?_ ?_; rotate_left
   ·
    rintro w' ⟨s0, s1, s2⟩
    go_simp
    with_reducible rfl
   rotate_left
   · simp only [Act.put, sib_, sc0_, sc1_, i64_w, i32_w]; rfl
   refine pu_ (v := ?_) (a' := ?_) 8 (some 31) #[true, true, true, true, true, true, true, true, true, false, false, false, false, false, false] rfl rfl (any_of HT_.out (by kernel_rfl)) (fun _ _ _ h => h) (.inl ⟨by rfl, ?_⟩) ?_ ?_; rotate_left
   · intro w'; go_simp; with_reducible rfl
   rotate_left
   · simp only [Act.put, sib_, sc0_, sc1_, i64_w, i32_w]; rfl
   refine one_ (i := 9) (N := some 32) #[true, true, true, true, true, true, true, true, true, true, false, false, false, false, false] rfl rfl (one_of HT_.out (by kernel_rfl)) (by decide) (fun K hK => ?_)
   refine goes_ Try.func90 (by kernel_rfl) rfl #[.agg #[.int .i64 a2_0, .int .i64 a2_1, .slice A2_2 l2_2.length c2_2], .int .i64 (Int.tmod a1 a2_0), .int .i64 (wrap64 (Int.tdiv a1 a2_0))] (by rfl) rfl rfl (by (try simp only [List.map_toArray, List.map_cons, List.map_nil]); first | done | rfl | (simp only [List.length_drop, List.length_take]; rfl)) ?_
   with_reducible refine (spec_SquareAt.calls k a2_0 a2_1 _ _ l2_2 (Int.tmod a1 a2_0) (wrap64 (Int.tdiv a1 a2_0)) t235 t236 _ ?side1 ?side2 A9.out).mono ?_
   (case side1 => repeat (first | exact (Kd.C_below HR2_2.out HB.out) | (with_reducible refine Kd.C_alloc ?_ _) | (with_reducible refine Kd.C_drewN ?_ _) | (with_reducible refine Kd.C_drew ?_)))
   (case side2 => exact HC2_2.out)
   rintro e w14 ⟨rfl, hb⟩
   refine ⟨_, rfl, ?_⟩
   replace BK234 := As_ (blk_b hb BK234.out)
   replace HB := As_ (below_step (by repeat (first | (with_reducible first | exact HB.out | apply ba_ | apply bn_ | apply bd_ | refine bs_ ?_ GE234.out) | exact HB.out)) hb)
   (try clear hb)
   (try clear hb2)
   (try clear hk)
   (try clear hi)
   refine hK.out _ _ ⟨(blk_cell BK234.out 0).trans rfl, (blk_cell BK234.out 1).trans rfl, (blk_cell BK234.out 2).trans rfl⟩ (fun hHeld => ?_); clear hK K
   refine norm_ (a' := ?_) ?_ ?_; rotate_left
   ·
    show Act.put _ (some 32) _ = _
    simp only [Act.put, sib_, sc0_, sc1_, i64_w, i32_w]
    rfl
   refine pu_ (v := ?_) (a' := ?_) 10 (some 22) #[true, true, true, true, true, true, true, true, true, true, true, false, false, false, false] rfl rfl (any_of HT_.out (by kernel_rfl)) (fun _ _ _ h => h) (.inl ⟨by rfl, ?_⟩) ?_ ?_; rotate_left
   · intro w'; go_simp; with_reducible rfl
   rotate_left
   · simp only [Act.put, sib_, sc0_, sc1_, i64_w, i32_w]; rfl
   refine pu_ (v := ?_) (a' := ?_) 11 (some 33) #[true, true, true, true, true, true, true, true, true, true, true, true, false, false, false] rfl rfl (any_of HT_.out (by kernel_rfl)) (fun _ _ _ h => h) (.inl ⟨by rfl, ?_⟩) ?_ ?_; rotate_left
   · intro w'; go_simp; with_reducible rfl
   rotate_left
   · simp only [Act.put, sib_, sc0_, sc1_, i64_w, i32_w]; rfl
   refine pu_ (v := ?_) (a' := ?_) 12 (some 34) #[true, true, true, true, true, true, true, true, true, true, true, true, true, false, false] rfl rfl (any_of HT_.out (by kernel_rfl)) (fun _ _ _ h => h) (.inl ⟨by rfl, ?_⟩) ?_ ?_; rotate_left
   · intro w'; go_simp; with_reducible rfl
   rotate_left
   · simp only [Act.put, sib_, sc0_, sc1_, i64_w, i32_w]; rfl
   refine pu_ (v := ?_) (a' := ?_) 13 (some 8) #[true, true, true, true, true, true, true, true, true, true, true, true, true, true, false] rfl rfl (any_of HT_.out (by kernel_rfl)) (fun _ _ _ h => h) (.inl ⟨by rfl, ?_⟩) ?_ ?_; rotate_left
   · intro w'; go_simp; with_reducible rfl
   rotate_left
   · simp only [Act.put, sib_, sc0_, sc1_, i64_w, i32_w]; rfl
   refine pu_ (v := ?_) (a' := ?_) 14 (some 9) #[true, true, true, true, true, true, true, true, true, true, true, true, true, true, true] rfl rfl (any_of HT_.out (by kernel_rfl)) (fun _ _ _ h => h) (.inl ⟨by rfl, ?_⟩) ?_ ?_; rotate_left
   · intro w'; go_simp; with_reducible rfl
   rotate_left
   · simp only [Act.put, sib_, sc0_, sc1_, i64_w, i32_w]; rfl
   refine done_ (done_of HT_.out (by kernel_rfl)) ?_
   obtain ⟨hcz15_0, hcz15_1, hcz15_2⟩ := c3_ (w := w14) BK234.out
   obtain ⟨hfz15_0, hfz15_1, hfz15_2⟩ := z3_ BK234.out
   have p237 : 0 ≤ (t235 : Int) := of_decide_eq_true (by first | (with_reducible assumption) | assumption)
   have q237 : t235 < (l2_2.length : Int) := of_decide_eq_true (by first | (with_reducible assumption) | assumption)
   obtain ⟨ad237, e237, hx237_0, hx237_1, hx237_2⟩ := at_T87 HR2_2.out t235 p237 q237
   cases e237
   replace hx237_0 := pw_cell_below HB.out hx237_0
   replace hx237_1 := pw_cell_below HB.out hx237_1
   replace hx237_2 := pw_cell_below HB.out hx237_2
   replace p237 := eq_true p237
   replace q237 := eq_true q237
   try go_wp2
   go_ret
   exact ⟨by first | rfl | (simp <;> rfl) | (simp [*] <;> rfl), by repeat (first | (with_reducible first | exact HB.out | apply ba_ | apply bn_ | apply bd_ | refine bs_ ?_ GE234.out) | exact HB.out)⟩
  ·
   rw [if_neg c7] at H
   have c7b0 : (a0 == 2) = false := beq_eq_false_iff_ne.mpr c7
   have c7b1 : (a0 != 2) = true := bne_iff_ne.mpr c7
   by_cases c16 : a0 = 3
   ·
    rw [if_pos c16] at H
    have c16b0 : (a0 == 3) = true := beq_iff_eq.mpr c16
    have c16b1 : (a0 != 3) = false := bne_eq_false_iff_eq.mpr c16
    clear c16
    replace H := Option.bind_eq_some_iff.mp H
    obtain ⟨⟨t238, t241⟩, A170, H⟩ := H
    try dsimp only at H
    have A17 := As_ A170
    clear A170
    by_cases c18 : 0 ≤ a1
    case neg => rw [if_neg c18] at H; exact absurd H (by simp)
    rw [if_pos c18] at H
    have c18b0 : decide (0 ≤ a1) = true := decide_eq_true c18
    clear c18
    by_cases c19 : a1 < (t238.length : Int)
    case neg => rw [if_neg c19] at H; exact absurd H (by simp)
    rw [if_pos c19] at H
    have c19b0 : decide (a1 < (t238.length : Int)) = true := decide_eq_true c19
    clear c19
    obtain rfl := Option.some.inj H
    go_enter Try.func70, Try.ntmps70
    go_wp2_with (first | ((with_reducible refine gate_dst (N := 5) rfl ?_); refine box_event rfl (N := 5) rfl (cs := #[.int .i64 a2_0, .int .i64 a2_1, .slice A2_2 l2_2.length c2_2]) (t := 31) ?hr ?_; (case hr => first | (go_simp; done) | (go_simp; rfl)); intro gb234 hg w20 hbox hb; have BK234 := As_ (hbox); have hW_ := bel_ w hb (by repeat (first | (with_reducible first | exact HB.out | apply ba_ | apply bn_ | apply bd_) | exact HB.out)); have GE234 := As_ (gesz hg hW_); replace HB := As_ (below_step hW_ hb); clear hW_ hb hbox hg; obtain ⟨hcz21_0, hcz21_1, hcz21_2⟩ := c3_ (w := w20) BK234.out; obtain ⟨hfz21_0, hfz21_1, hfz21_2⟩ := z3_ BK234.out) | ((with_reducible refine gate_callee (f := 91) rfl ?_); refine goesL_ (some 45) rfl rfl Try.func91 (by kernel_rfl) rfl #[.agg #[.int .i64 a2_0, .int .i64 a2_1, .slice A2_2 l2_2.length c2_2]] rfl (by (try simp only [List.map_toArray, List.map_cons, List.map_nil]); first | done | rfl | (simp only [List.length_drop, List.length_take]; rfl)) ?_; (with_reducible refine (spec_SquaresAtEdges.calls k a2_0 a2_1 _ _ l2_2 t238 t241 _ ?side1 ?side2 A17.out).mono ?_); (case side1 => repeat (first | exact (Kd.C_below HR2_2.out HB.out) | (with_reducible refine Kd.C_alloc ?_ _) | (with_reducible refine Kd.C_drewN ?_ _) | (with_reducible refine Kd.C_drew ?_))); (case side2 => exact HC2_2.out); rintro e w22 ⟨v239, rfl, ho0, hb⟩; refine ⟨_, rfl, ?_⟩; have HO240 := As_ (Kd.R_lower ho0 (below_size (by repeat (first | (with_reducible first | exact HB.out | apply ba_ | apply bn_ | apply bd_ | refine bs_ ?_ GE234.out) | exact HB.out)))); replace BK234 := As_ (blk_b hb BK234.out); replace HB := As_ (below_step (by repeat (first | (with_reducible first | exact HB.out | apply ba_ | apply bn_ | apply bd_ | refine bs_ ?_ GE234.out) | exact HB.out)) hb); (try clear hb); (try clear ho0); obtain ⟨Ao23, co23, eo23⟩ := Kd.R_slice HO240.out; subst eo23; have p242 : 0 ≤ (a1 : Int) := of_decide_eq_true (by first | (with_reducible assumption) | assumption); have q242 : a1 < (t238.length : Int) := of_decide_eq_true (by first | (with_reducible assumption) | assumption); obtain ⟨ad242, e242, hx242_0⟩ := Kd.at_int (Kd.R_reads' HO240.out).2.2 a1 p242 q242; cases e242; replace p242 := eq_true p242; replace q242 := eq_true q242))
    go_ret
    exact ⟨by first | rfl | (simp <;> rfl) | (simp [*] <;> rfl), by repeat (first | (with_reducible first | exact HB.out | apply ba_ | apply bn_ | apply bd_ | refine bs_ ?_ GE234.out) | exact HB.out)⟩
   ·
    rw [if_neg c16] at H
    have c16b0 : (a0 == 3) = false := beq_eq_false_iff_ne.mpr c16
    have c16b1 : (a0 != 3) = true := bne_iff_ne.mpr c16
    by_cases c24 : a0 = 5
    ·
     rw [if_pos c24] at H
     have c24b0 : (a0 == 5) = true := beq_iff_eq.mpr c24
     have c24b1 : (a0 != 5) = false := bne_eq_false_iff_eq.mpr c24
     clear c24
     replace H := Option.bind_eq_some_iff.mp H
     obtain ⟨t243, A250, H⟩ := H
     try dsimp only at H
     have A25 := As_ A250
     clear A250
     replace H := Option.bind_eq_some_iff.mp H
     obtain ⟨⟨t244, t245, t246⟩, A260, H⟩ := H
     try dsimp only at H
     have A26 := As_ A260
     clear A260
     replace H := Option.bind_eq_some_iff.mp H
     obtain ⟨t249, A270, H⟩ := H
     try dsimp only at H
     have A27 := As_ A270
     clear A270
     replace H := Option.bind_eq_some_iff.mp H
     obtain ⟨t250, A280, H⟩ := H
     try dsimp only at H
     have A28 := As_ A280
     clear A280
     obtain rfl := Option.some.inj H
     go_enter Try.func70, Try.ntmps70
     try go_wp2_with (first | ((with_reducible refine gate_dst (N := 5) rfl ?_); refine box_event rfl (N := 5) rfl (cs := #[.int .i64 a2_0, .int .i64 a2_1, .slice A2_2 l2_2.length c2_2]) (t := 31) ?hr ?_; (case hr => first | (go_simp; done) | (go_simp; rfl)); intro gb234 hg w29 hbox hb; have BK234 := As_ (hbox); have hW_ := bel_ w hb (by repeat (first | (with_reducible first | exact HB.out | apply ba_ | apply bn_ | apply bd_) | exact HB.out)); have GE234 := As_ (gesz hg hW_); replace HB := As_ (below_step hW_ hb); clear hW_ hb hbox hg))
     replace BK234 := As_ (blk_drew BK234.out)
     replace HB := As_ (below_drew1 HB.out)
     refine start_ (n := 7) (S := fun w' => w'.cell? ⟨gb234, 0, none⟩ = some (.int .i64 a2_0) ∧ w'.cell? ⟨gb234, 1, none⟩ = some (.int .i64 a2_1) ∧ w'.cell? ⟨gb234, 2, none⟩ = some (.slice A2_2 l2_2.length c2_2)) (ds := []) #[false, false, false, false, false, false, false] (by kernel_rfl) rfl rfl ⟨(blk_cell BK234.out 0).trans rfl, (blk_cell BK234.out 1).trans rfl, (blk_cell BK234.out 2).trans rfl⟩ (fun hHeld => ?_)
     generalize w29.drew = w30 at BK234 HB hHeld ⊢
     refine take_ (i := 0) (N := some 54) (v := ?_) (a' := ?_) #[true, false, false, false, false, false, false] rfl rfl (by kernel_rfl) (fun _ _ _ h => h) (Or.inl ⟨by rfl, ?_⟩) hHeld ?_ ?_; rotate_left
     ·
      rintro w' ⟨s0, s1, s2⟩
      go_simp
      with_reducible rfl
     rotate_left
     · simp only [Act.put, sib_, sc0_, sc1_, i64_w, i32_w]; rfl
     refine take_ (i := 2) (N := some 56) (v := ?_) (a' := ?_) #[true, false, true, false, false, false, false] rfl rfl (by kernel_rfl) (fun _ _ _ h => h) (Or.inl ⟨by rfl, ?_⟩) hHeld ?_ ?_; rotate_left
     ·
      rintro w' ⟨s0, s1, s2⟩
      go_simp
      with_reducible rfl
     rotate_left
     · simp only [Act.put, sib_, sc0_, sc1_, i64_w, i32_w]; rfl
     refine one_ (i := 1) (N := some 55) #[true, true, true, false, false, false, false] rfl rfl (by kernel_rfl) (by decide) (fun K hK => ?_)
     refine goes_ Try.func93 (by kernel_rfl) rfl #[.agg #[.int .i64 a2_0, .int .i64 a2_1, .slice A2_2 l2_2.length c2_2]] (by rfl) rfl rfl (by (try simp only [List.map_toArray, List.map_cons, List.map_nil]); first | done | rfl | (simp only [List.length_drop, List.length_take]; rfl)) ?_
     with_reducible refine (spec_cuLine.calls k a2_0 a2_1 _ _ l2_2 t243 _ ?side1 ?side2 A25.out).mono ?_
     (case side1 => repeat (first | exact (Kd.C_below HR2_2.out HB.out) | (with_reducible refine Kd.C_alloc ?_ _) | (with_reducible refine Kd.C_drewN ?_ _) | (with_reducible refine Kd.C_drew ?_)))
     (case side2 => exact HC2_2.out)
     rintro e w31 ⟨rfl, hb⟩
     refine ⟨_, rfl, ?_⟩
     replace BK234 := As_ (blk_b hb BK234.out)
     replace HB := As_ (below_step (by repeat (first | (with_reducible first | exact HB.out | apply ba_ | apply bn_ | apply bd_ | refine bs_ ?_ GE234.out) | exact HB.out)) hb)
     (try clear hb)
     (try clear hb2)
     (try clear hk)
     (try clear hi)
     refine hK.out _ _ ⟨(blk_cell BK234.out 0).trans rfl, (blk_cell BK234.out 1).trans rfl, (blk_cell BK234.out 2).trans rfl⟩ (fun hHeld => ?_); clear hK K
     refine norm_ (a' := ?_) ?_ ?_; rotate_left
     ·
      show Act.put _ (some 55) _ = _
      simp only [Act.put, sib_, sc0_, sc1_, i64_w, i32_w]
      rfl
     refine one_ (i := 3) (N := some 57) #[true, true, true, true, false, false, false] rfl rfl (by kernel_rfl) (by decide) (fun K hK => ?_)
     refine goes_ Try.func94 (by kernel_rfl) rfl #[.agg #[.int .i64 a2_0, .int .i64 a2_1, .slice A2_2 l2_2.length c2_2]] (by rfl) rfl rfl (by (try simp only [List.map_toArray, List.map_cons, List.map_nil]); first | done | rfl | (simp only [List.length_drop, List.length_take]; rfl)) ?_
     with_reducible refine (spec_cuTurn.calls k a2_0 a2_1 _ _ l2_2 t244 t245 t246 _ ?side1 ?side2 A26.out).mono ?_
     (case side1 => repeat (first | exact (Kd.C_below HR2_2.out HB.out) | (with_reducible refine Kd.C_alloc ?_ _) | (with_reducible refine Kd.C_drewN ?_ _) | (with_reducible refine Kd.C_drew ?_)))
     (case side2 => exact HC2_2.out)
     rintro e w32 ⟨v247, rfl, ho0, hb⟩
     refine ⟨_, rfl, ?_⟩
     have HO248 := As_ (Kd.R_lower ho0 (below_size (by repeat (first | (with_reducible first | exact HB.out | apply ba_ | apply bn_ | apply bd_ | refine bs_ ?_ GE234.out) | exact HB.out))))
     replace BK234 := As_ (blk_b hb BK234.out)
     replace HB := As_ (below_step (by repeat (first | (with_reducible first | exact HB.out | apply ba_ | apply bn_ | apply bd_ | refine bs_ ?_ GE234.out) | exact HB.out)) hb)
     (try clear hb)
     (try clear hb2)
     (try clear hk)
     (try clear hi)
     (try clear ho0)
     obtain ⟨Ao33, co33, eo33⟩ := Kd.R_slice HO248.out
     (first | subst eo33 | (injection eo33 with f1_ f2_ f3_; have f4_ := f1_.symm; have f5_ := f3_.symm; clear f1_ f2_ f3_; subst f4_; subst f5_))
     refine hK.out _ _ ⟨(blk_cell BK234.out 0).trans rfl, (blk_cell BK234.out 1).trans rfl, (blk_cell BK234.out 2).trans rfl⟩ (fun hHeld => ?_); clear hK K
     refine norm_ (a' := ?_) ?_ ?_; rotate_left
     ·
      show Act.put _ (some 57) _ = _
      simp only [Act.put, sib_, sc0_, sc1_, i64_w, i32_w]
      rfl
     refine one_ (i := 4) (N := some 58) #[true, true, true, true, true, false, false] rfl rfl (by kernel_rfl) (by decide) (fun K hK => ?_)
     refine goes_ Try.func93 (by kernel_rfl) rfl #[.agg #[.int .i64 t244, .int .i64 t245, .slice Ao33 t246.length co33]] (by rfl) rfl rfl (by (try simp only [List.map_toArray, List.map_cons, List.map_nil]); first | done | rfl | (simp only [List.length_drop, List.length_take]; rfl)) ?_
     with_reducible refine (spec_cuLine.calls k t244 t245 _ _ t246 t249 _ ?side1 ?side2 A27.out).mono ?_
     (case side1 => repeat (first | exact (Kd.R_reads' HO248.out).2.2 | (with_reducible refine Kd.C_alloc ?_ _) | (with_reducible refine Kd.C_drewN ?_ _) | (with_reducible refine Kd.C_drew ?_)))
     (case side2 => exact (Kd.R_reads' HO248.out).2.1)
     rintro e w34 ⟨rfl, hb⟩
     refine ⟨_, rfl, ?_⟩
     replace HO248 := As_ (Kd.R_below (by (with_reducible repeat (first | apply Kd.R_alloc | apply Kd.R_drewN | apply Kd.R_drew)); exact HO248.out) hb)
     replace BK234 := As_ (blk_b hb BK234.out)
     replace HB := As_ (below_step (by repeat (first | (with_reducible first | exact HB.out | apply ba_ | apply bn_ | apply bd_ | refine bs_ ?_ GE234.out) | exact HB.out)) hb)
     (try clear hb)
     (try clear hb2)
     (try clear hk)
     (try clear hi)
     refine hK.out _ _ ⟨(blk_cell BK234.out 0).trans rfl, (blk_cell BK234.out 1).trans rfl, (blk_cell BK234.out 2).trans rfl⟩ (fun hHeld => ?_); clear hK K
     refine norm_ (a' := ?_) ?_ ?_; rotate_left
     ·
      show Act.put _ (some 58) _ = _
      simp only [Act.put, sib_, sc0_, sc1_, i64_w, i32_w]
      rfl
     refine one_ (i := 5) (N := some 59) #[true, true, true, true, true, true, false] rfl rfl (by kernel_rfl) (by decide) (fun K hK => ?_)
     refine goes_ Try.func92 (by kernel_rfl) rfl #[.int .i64 t243, .int .i64 t249] (by rfl) rfl rfl (by (try simp only [List.map_toArray, List.map_cons, List.map_nil]); first | done | rfl | (simp only [List.length_drop, List.length_take]; rfl)) ?_
     with_reducible refine (spec_l1Most.calls t243 t249 t250 _ A28.out).mono ?_
     rintro e w' ⟨rfl, ⟨nd, rfl⟩⟩
     refine ⟨_, rfl, ?_⟩
     refine hK.out _ _ ⟨(blk_cell BK234.out 0).trans rfl, (blk_cell BK234.out 1).trans rfl, (blk_cell BK234.out 2).trans rfl⟩ (fun hHeld => ?_); clear hK K
     refine norm_ (a' := ?_) ?_ ?_; rotate_left
     ·
      show Act.put _ (some 59) _ = _
      simp only [Act.put, sib_, sc0_, sc1_, i64_w, i32_w]
      rfl
     refine pu_ (v := ?_) (a' := ?_) 6 (some 6) #[true, true, true, true, true, true, true] rfl rfl (by kernel_rfl) (fun _ _ _ h => h) (.inl ⟨by rfl, ?_⟩) ?_ ?_; rotate_left
     · intro w'; go_simp; with_reducible rfl
     rotate_left
     · simp only [Act.put, sib_, sc0_, sc1_, i64_w, i32_w]; rfl
     refine done_ (by kernel_rfl) ?_
     try go_wp2
     go_ret
     exact ⟨by first | rfl | (simp <;> rfl) | (simp [*] <;> rfl), by repeat (first | (with_reducible first | exact HB.out | apply ba_ | apply bn_ | apply bd_ | refine bs_ ?_ GE234.out) | exact HB.out)⟩
    ·
     rw [if_neg c24] at H
     have c24b0 : (a0 == 5) = false := beq_eq_false_iff_ne.mpr c24
     have c24b1 : (a0 != 5) = true := bne_iff_ne.mpr c24
     have H' := As_ H
     clear H
     go_enter Try.func70, Try.ntmps70
     go_wp2_with (first | ((with_reducible refine gate_dst (N := 5) rfl ?_); refine box_event rfl (N := 5) rfl (cs := #[.int .i64 a2_0, .int .i64 a2_1, .slice A2_2 l2_2.length c2_2]) (t := 31) ?hr ?_; (case hr => first | (go_simp; done) | (go_simp; rfl)); intro gb234 hg w35 hbox hb; have BK234 := As_ (hbox); have hW_ := bel_ w hb (by repeat (first | (with_reducible first | exact HB.out | apply ba_ | apply bn_ | apply bd_) | exact HB.out)); have GE234 := As_ (gesz hg hW_); replace HB := As_ (below_step hW_ hb); clear hW_ hb hbox hg; obtain ⟨hcz36_0, hcz36_1, hcz36_2⟩ := c3_ (w := w35) BK234.out; obtain ⟨hfz36_0, hfz36_1, hfz36_2⟩ := z3_ BK234.out))
     go_loopg [7, 63] k (fun kq v7 v63 w' => ∃ (x7_1 : Int) (x63_1 : Int), v7 = .int .i64 x7_1 ∧ v63 = .int .i64 x63_1 ∧ Aside0 (spec_pzValue.l0 kq a0 a1 x7_1 l2_2 (l2_2.length : Int) x63_1 a2_0 a2_1 l2_2 = some r) ∧ Aside0 (kq ≤ k) ∧ Aside0 (w'.heap[gb234]? = some (.cells #[.int .i64 a2_0, .int .i64 a2_1, (.slice A2_2 l2_2.length c2_2)] 31 (0, 0))) ∧ Aside0 (Below w.heap.size w w'))
     case atStart => exact ⟨(0), (0), (by first | rfl | (simp; done) | (simp [*]; done)), (by first | rfl | (simp; done) | (simp [*]; done)), H', ⟨Nat.le_refl _⟩, ⟨by (with_reducible repeat (first | refine kn_ ?_ _ | refine kd_ ?_ | refine ka_ ?_ _)); exact BK234.out⟩, ⟨by repeat (first | (with_reducible first | exact HB.out | apply ba_ | apply bn_ | apply bd_ | refine bs_ ?_ GE234.out) | exact HB.out)⟩⟩
     case round =>
      clear H'
      try clear c1; try clear c2; try clear p2
      try clear q2
      try clear hx2; try clear c4; try clear c4b0; try clear c4b1; try clear p6; try clear c7; try clear c7b0; try clear c7b1; try clear c8; try clear c8b0; try clear c8b1; try clear c9; try clear c10; try clear c10b0; try clear c11; try clear c11b0; try clear c16; try clear c16b0; try clear c16b1; try clear c18; try clear c18b0; try clear c19; try clear c19b0; try clear p23
      try clear q23
      try clear hx23; try clear c24; try clear c24b0; try clear c24b1; try clear p24
      try clear q24
      try clear hx24; try clear hcz15_0 hcz15_1 hcz15_2; try clear hcz21_0 hcz21_1 hcz21_2; try clear hcz36_0 hcz36_1 hcz36_2; try clear hcz6_0 hcz6_1 hcz6_2; try clear hfz15_0 hfz15_1 hfz15_2; try clear hfz21_0 hfz21_1 hfz21_2; try clear hfz36_0 hfz36_1 hfz36_2; try clear hfz6_0 hfz6_1 hfz6_2; try clear hx237_0; try clear hx237_1; try clear hx237_2; try clear hx242_0; try clear p237; try clear p242
      try clear q237
      try clear q242
      obtain ⟨x7_1, x63_1, rfl, rfl, HA, HK1, BK234, HB⟩ := hrel
      rcases gk with _ | k1
      · exact absurd HA.out (by simp [spec_pzValue.l0])
      have H := HA.out
      clear HA
      simp only [spec_pzValue.l0] at H
      by_cases c37 : x63_1 < (l2_2.length : Int)
      ·
       rw [if_pos c37] at H
       have c37b0 : decide (x63_1 < (l2_2.length : Int)) = true := decide_eq_true c37
       clear c37
       by_cases c38 : 0 ≤ x63_1
       case neg => rw [if_neg c38] at H; exact absurd H (by simp)
       rw [if_pos c38] at H
       have c38b0 : decide (0 ≤ x63_1) = true := decide_eq_true c38
       clear c38
       by_cases c39 : x63_1 < (l2_2.length : Int)
       case neg => rw [if_neg c39] at H; exact absurd H (by simp)
       rw [if_pos c39] at H
       have c39b0 : decide (x63_1 < (l2_2.length : Int)) = true := decide_eq_true c39
       clear c39
       by_cases c40 : a0 = 1
       ·
        rw [if_pos c40] at H
        have c40b0 : (a0 == 1) = true := beq_iff_eq.mpr c40
        have c40b1 : (a0 != 1) = false := bne_eq_false_iff_eq.mpr c40
        clear c40
        by_cases c41 : ((rd_T87 l2_2 x63_1).f2) = a1
        ·
         rw [if_pos c41] at H
         have c41b0 : (((rd_T87 l2_2 x63_1).f2) == a1) = true := beq_iff_eq.mpr c41
         have c41b1 : (((rd_T87 l2_2 x63_1).f2) != a1) = false := bne_eq_false_iff_eq.mpr c41
         clear c41
         have H' := As_ H
         clear H
         have p251 : 0 ≤ (x63_1 : Int) := of_decide_eq_true (by first | (with_reducible assumption) | assumption)
         have q251 : x63_1 < (l2_2.length : Int) := of_decide_eq_true (by first | (with_reducible assumption) | assumption)
         obtain ⟨ad251, e251, hx251_0, hx251_1, hx251_2⟩ := at_T87 HR2_2.out x63_1 p251 q251
         cases e251
         replace hx251_0 := pw_cell_below HB.out hx251_0
         replace hx251_1 := pw_cell_below HB.out hx251_1
         replace hx251_2 := pw_cell_below HB.out hx251_2
         replace p251 := eq_true p251
         replace q251 := eq_true q251
         go_wp2_with (first | ((with_reducible refine gate_dst (N := 13) rfl ?_); refine box_event rfl (N := 13) rfl (cs := #[.int .i64 0, .int .i64 0, .int .i64 0]) (t := 87) ?hr ?_; (case hr => first | (go_simp; done) | (go_simp; rfl)); intro gb252 hg w42 hbox hb; have BK252 := As_ (hbox); have hW_ := bel_ w hb (by repeat (first | (with_reducible first | exact HB.out | apply ba_ | apply bn_ | apply bd_ | refine bs_ ?_ GE234.out) | exact HB.out)); have GE252 := As_ (gesz hg hW_); have NB234_252 := As_ (ne_lt hg BK234.out); have NB252_234 := As_ (ne_gt hg BK234.out); replace BK234 := As_ (blk_b hb BK234.out); replace HB := As_ (below_step hW_ hb); clear hW_ hb hbox hg; have hnb43 := NB252_234.out; have hnc43 := NB234_252.out; obtain ⟨hcz44_0, hcz44_1, hcz44_2⟩ := c3_ (w := w42) BK252.out; obtain ⟨hfz44_0, hfz44_1, hfz44_2⟩ := z3_ BK252.out))
         go_roundg k1
         case measure => have := HK1.out; omega
         case rel => exact ⟨(wrap64 (x7_1 + 1)), (wrap64 (x63_1 + 1)), (by first | rfl | (simp; done) | (simp [*]; done)), (by first | rfl | (simp; done) | (simp [*]; done)), H', ⟨by have := HK1.out; omega⟩, ⟨by (with_reducible repeat (first | refine kn_ ?_ _ | refine kd_ ?_ | refine ka_ ?_ _)); refine blk_far ?_ NB234_252.out _; refine blk_far ?_ NB234_252.out _; refine blk_far ?_ NB234_252.out _; (with_reducible repeat (first | refine kn_ ?_ _ | refine kd_ ?_ | refine ka_ ?_ _)); exact BK234.out⟩, ⟨by repeat (first | (with_reducible first | exact HB.out | apply ba_ | apply bn_ | apply bd_ | refine below_setA ?_ (by assumption)) | exact HB.out)⟩⟩
        ·
         rw [if_neg c41] at H
         have c41b0 : (((rd_T87 l2_2 x63_1).f2) == a1) = false := beq_eq_false_iff_ne.mpr c41
         have c41b1 : (((rd_T87 l2_2 x63_1).f2) != a1) = true := bne_iff_ne.mpr c41
         by_cases c45 : a0 = 4
         ·
          rw [if_pos c45] at H
          have c45b0 : (a0 == 4) = true := beq_iff_eq.mpr c45
          have c45b1 : (a0 != 4) = false := bne_eq_false_iff_eq.mpr c45
          clear c45
          replace H := Option.bind_eq_some_iff.mp H
          obtain ⟨t253, A460, H⟩ := H
          try dsimp only at H
          have A46 := As_ A460
          clear A460
          by_cases c47 : t253 = 4
          ·
           rw [if_pos c47] at H
           have c47b0 : (t253 == 4) = true := beq_iff_eq.mpr c47
           have c47b1 : (t253 != 4) = false := bne_eq_false_iff_eq.mpr c47
           clear c47
           have H' := As_ H
           clear H
           have p251 : 0 ≤ (x63_1 : Int) := of_decide_eq_true (by first | (with_reducible assumption) | assumption)
           have q251 : x63_1 < (l2_2.length : Int) := of_decide_eq_true (by first | (with_reducible assumption) | assumption)
           obtain ⟨ad251, e251, hx251_0, hx251_1, hx251_2⟩ := at_T87 HR2_2.out x63_1 p251 q251
           cases e251
           replace hx251_0 := pw_cell_below HB.out hx251_0
           replace hx251_1 := pw_cell_below HB.out hx251_1
           replace hx251_2 := pw_cell_below HB.out hx251_2
           replace p251 := eq_true p251
           replace q251 := eq_true q251
           go_wp2_with (first | ((with_reducible refine gate_dst (N := 13) rfl ?_); refine box_event rfl (N := 13) rfl (cs := #[.int .i64 0, .int .i64 0, .int .i64 0]) (t := 87) ?hr ?_; (case hr => first | (go_simp; done) | (go_simp; rfl)); intro gb252 hg w48 hbox hb; have BK252 := As_ (hbox); have hW_ := bel_ w hb (by repeat (first | (with_reducible first | exact HB.out | apply ba_ | apply bn_ | apply bd_ | refine bs_ ?_ GE234.out) | exact HB.out)); have GE252 := As_ (gesz hg hW_); have NB234_252 := As_ (ne_lt hg BK234.out); have NB252_234 := As_ (ne_gt hg BK234.out); replace BK234 := As_ (blk_b hb BK234.out); replace HB := As_ (below_step hW_ hb); clear hW_ hb hbox hg; have hnb49 := NB252_234.out; have hnc49 := NB234_252.out; obtain ⟨hcz50_0, hcz50_1, hcz50_2⟩ := c3_ (w := w48) BK252.out; obtain ⟨hfz50_0, hfz50_1, hfz50_2⟩ := z3_ BK252.out; obtain ⟨hcz51_0, hcz51_1, hcz51_2⟩ := c3_ (w := w48) BK234.out; obtain ⟨hfz51_0, hfz51_1, hfz51_2⟩ := z3_ BK234.out) | (go_at_call 95; (with_reducible refine (spec_cuCorners.calls k1 a2_0 a2_1 _ _ l2_2 ((rd_T87 l2_2 x63_1).f0) ((rd_T87 l2_2 x63_1).f1) t253 _ ?side1 ?side2 A46.out).mono ?_); (case side1 => exact Kd.C_below HR2_2.out (by repeat (first | (with_reducible first | exact HB.out | apply ba_ | apply bn_ | apply bd_ | refine below_setA ?_ (by assumption)) | exact HB.out))); (case side2 => exact HC2_2.out); rintro e w52 ⟨rfl, hb⟩; replace BK234 := As_ (blk_below (g := gb234) (o := .cells #[.int .i64 a2_0, .int .i64 a2_1, .slice (some ad251) l2_2.length c2_2] 31 (0, 0)) (by (with_reducible repeat (first | refine kn_ ?_ _ | refine kd_ ?_ | refine ka_ ?_ _)); refine blk_far ?_ NB234_252.out _; refine blk_far ?_ NB234_252.out _; refine blk_far ?_ NB234_252.out _; (with_reducible repeat (first | refine kn_ ?_ _ | refine kd_ ?_ | refine ka_ ?_ _)); exact BK234.out) hb); replace BK252 := As_ (blk_below (g := gb252) (o := .cells #[.int .i64 ((rd_T87 l2_2 x63_1).f0), .int .i64 ((rd_T87 l2_2 x63_1).f1), .int .i64 ((rd_T87 l2_2 x63_1).f2)] 87 (0, 0)) (by (with_reducible repeat (first | refine kn_ ?_ _ | refine kd_ ?_ | refine ka_ ?_ _)); refine blk_put (cs := #[.int .i64 ((rd_T87 l2_2 x63_1).f0), .int .i64 ((rd_T87 l2_2 x63_1).f1), .int .i64 0]) ?_ 2 _ rfl; refine blk_put (cs := #[.int .i64 ((rd_T87 l2_2 x63_1).f0), .int .i64 0, .int .i64 0]) ?_ 1 _ rfl; refine blk_put (cs := #[.int .i64 0, .int .i64 0, .int .i64 0]) ?_ 0 _ rfl; (with_reducible repeat (first | refine kn_ ?_ _ | refine kd_ ?_ | refine ka_ ?_ _)); exact BK252.out) hb); replace HB := As_ (below_step (by repeat (first | (with_reducible first | exact HB.out | apply ba_ | apply bn_ | apply bd_ | refine below_setA ?_ (by assumption)) | exact HB.out)) hb); (try clear hb)))
           go_roundg k1
           case measure => have := HK1.out; omega
           case rel => exact ⟨(wrap64 (x7_1 + 1)), (wrap64 (x63_1 + 1)), (by first | rfl | (simp; done) | (simp [*]; done)), (by first | rfl | (simp; done) | (simp [*]; done)), H', ⟨by have := HK1.out; omega⟩, ⟨by (with_reducible repeat (first | refine kn_ ?_ _ | refine kd_ ?_ | refine ka_ ?_ _)); exact BK234.out⟩, ⟨by repeat (first | (with_reducible first | exact HB.out | apply ba_ | apply bn_ | apply bd_ | refine below_setA ?_ (by assumption)) | exact HB.out)⟩⟩
          ·
           rw [if_neg c47] at H
           have c47b0 : (t253 == 4) = false := beq_eq_false_iff_ne.mpr c47
           have c47b1 : (t253 != 4) = true := bne_iff_ne.mpr c47
           have H' := As_ H
           clear H
           have p251 : 0 ≤ (x63_1 : Int) := of_decide_eq_true (by first | (with_reducible assumption) | assumption)
           have q251 : x63_1 < (l2_2.length : Int) := of_decide_eq_true (by first | (with_reducible assumption) | assumption)
           obtain ⟨ad251, e251, hx251_0, hx251_1, hx251_2⟩ := at_T87 HR2_2.out x63_1 p251 q251
           cases e251
           replace hx251_0 := pw_cell_below HB.out hx251_0
           replace hx251_1 := pw_cell_below HB.out hx251_1
           replace hx251_2 := pw_cell_below HB.out hx251_2
           replace p251 := eq_true p251
           replace q251 := eq_true q251
           go_wp2_with (first | ((with_reducible refine gate_dst (N := 13) rfl ?_); refine box_event rfl (N := 13) rfl (cs := #[.int .i64 0, .int .i64 0, .int .i64 0]) (t := 87) ?hr ?_; (case hr => first | (go_simp; done) | (go_simp; rfl)); intro gb252 hg w53 hbox hb; have BK252 := As_ (hbox); have hW_ := bel_ w hb (by repeat (first | (with_reducible first | exact HB.out | apply ba_ | apply bn_ | apply bd_ | refine bs_ ?_ GE234.out) | exact HB.out)); have GE252 := As_ (gesz hg hW_); have NB234_252 := As_ (ne_lt hg BK234.out); have NB252_234 := As_ (ne_gt hg BK234.out); replace BK234 := As_ (blk_b hb BK234.out); replace HB := As_ (below_step hW_ hb); clear hW_ hb hbox hg; have hnb54 := NB252_234.out; have hnc54 := NB234_252.out; obtain ⟨hcz55_0, hcz55_1, hcz55_2⟩ := c3_ (w := w53) BK252.out; obtain ⟨hfz55_0, hfz55_1, hfz55_2⟩ := z3_ BK252.out; obtain ⟨hcz56_0, hcz56_1, hcz56_2⟩ := c3_ (w := w53) BK234.out; obtain ⟨hfz56_0, hfz56_1, hfz56_2⟩ := z3_ BK234.out) | (go_at_call 95; (with_reducible refine (spec_cuCorners.calls k1 a2_0 a2_1 _ _ l2_2 ((rd_T87 l2_2 x63_1).f0) ((rd_T87 l2_2 x63_1).f1) t253 _ ?side1 ?side2 A46.out).mono ?_); (case side1 => exact Kd.C_below HR2_2.out (by repeat (first | (with_reducible first | exact HB.out | apply ba_ | apply bn_ | apply bd_ | refine below_setA ?_ (by assumption)) | exact HB.out))); (case side2 => exact HC2_2.out); rintro e w57 ⟨rfl, hb⟩; replace BK234 := As_ (blk_below (g := gb234) (o := .cells #[.int .i64 a2_0, .int .i64 a2_1, .slice (some ad251) l2_2.length c2_2] 31 (0, 0)) (by (with_reducible repeat (first | refine kn_ ?_ _ | refine kd_ ?_ | refine ka_ ?_ _)); refine blk_far ?_ NB234_252.out _; refine blk_far ?_ NB234_252.out _; refine blk_far ?_ NB234_252.out _; (with_reducible repeat (first | refine kn_ ?_ _ | refine kd_ ?_ | refine ka_ ?_ _)); exact BK234.out) hb); replace BK252 := As_ (blk_below (g := gb252) (o := .cells #[.int .i64 ((rd_T87 l2_2 x63_1).f0), .int .i64 ((rd_T87 l2_2 x63_1).f1), .int .i64 ((rd_T87 l2_2 x63_1).f2)] 87 (0, 0)) (by (with_reducible repeat (first | refine kn_ ?_ _ | refine kd_ ?_ | refine ka_ ?_ _)); refine blk_put (cs := #[.int .i64 ((rd_T87 l2_2 x63_1).f0), .int .i64 ((rd_T87 l2_2 x63_1).f1), .int .i64 0]) ?_ 2 _ rfl; refine blk_put (cs := #[.int .i64 ((rd_T87 l2_2 x63_1).f0), .int .i64 0, .int .i64 0]) ?_ 1 _ rfl; refine blk_put (cs := #[.int .i64 0, .int .i64 0, .int .i64 0]) ?_ 0 _ rfl; (with_reducible repeat (first | refine kn_ ?_ _ | refine kd_ ?_ | refine ka_ ?_ _)); exact BK252.out) hb); replace HB := As_ (below_step (by repeat (first | (with_reducible first | exact HB.out | apply ba_ | apply bn_ | apply bd_ | refine below_setA ?_ (by assumption)) | exact HB.out)) hb); (try clear hb)))
           go_roundg k1
           case measure => have := HK1.out; omega
           case rel => exact ⟨(x7_1), (wrap64 (x63_1 + 1)), (by first | rfl | (simp; done) | (simp [*]; done)), (by first | rfl | (simp; done) | (simp [*]; done)), H', ⟨by have := HK1.out; omega⟩, ⟨by (with_reducible repeat (first | refine kn_ ?_ _ | refine kd_ ?_ | refine ka_ ?_ _)); exact BK234.out⟩, ⟨by repeat (first | (with_reducible first | exact HB.out | apply ba_ | apply bn_ | apply bd_ | refine below_setA ?_ (by assumption)) | exact HB.out)⟩⟩
         ·
          rw [if_neg c45] at H
          have c45b0 : (a0 == 4) = false := beq_eq_false_iff_ne.mpr c45
          have c45b1 : (a0 != 4) = true := bne_iff_ne.mpr c45
          have H' := As_ H
          clear H
          have p251 : 0 ≤ (x63_1 : Int) := of_decide_eq_true (by first | (with_reducible assumption) | assumption)
          have q251 : x63_1 < (l2_2.length : Int) := of_decide_eq_true (by first | (with_reducible assumption) | assumption)
          obtain ⟨ad251, e251, hx251_0, hx251_1, hx251_2⟩ := at_T87 HR2_2.out x63_1 p251 q251
          cases e251
          replace hx251_0 := pw_cell_below HB.out hx251_0
          replace hx251_1 := pw_cell_below HB.out hx251_1
          replace hx251_2 := pw_cell_below HB.out hx251_2
          replace p251 := eq_true p251
          replace q251 := eq_true q251
          go_wp2_with (first | ((with_reducible refine gate_dst (N := 13) rfl ?_); refine box_event rfl (N := 13) rfl (cs := #[.int .i64 0, .int .i64 0, .int .i64 0]) (t := 87) ?hr ?_; (case hr => first | (go_simp; done) | (go_simp; rfl)); intro gb252 hg w58 hbox hb; have BK252 := As_ (hbox); have hW_ := bel_ w hb (by repeat (first | (with_reducible first | exact HB.out | apply ba_ | apply bn_ | apply bd_ | refine bs_ ?_ GE234.out) | exact HB.out)); have GE252 := As_ (gesz hg hW_); have NB234_252 := As_ (ne_lt hg BK234.out); have NB252_234 := As_ (ne_gt hg BK234.out); replace BK234 := As_ (blk_b hb BK234.out); replace HB := As_ (below_step hW_ hb); clear hW_ hb hbox hg; have hnb59 := NB252_234.out; have hnc59 := NB234_252.out; obtain ⟨hcz60_0, hcz60_1, hcz60_2⟩ := c3_ (w := w58) BK252.out; obtain ⟨hfz60_0, hfz60_1, hfz60_2⟩ := z3_ BK252.out))
          go_roundg k1
          case measure => have := HK1.out; omega
          case rel => exact ⟨(x7_1), (wrap64 (x63_1 + 1)), (by first | rfl | (simp; done) | (simp [*]; done)), (by first | rfl | (simp; done) | (simp [*]; done)), H', ⟨by have := HK1.out; omega⟩, ⟨by (with_reducible repeat (first | refine kn_ ?_ _ | refine kd_ ?_ | refine ka_ ?_ _)); refine blk_far ?_ NB234_252.out _; refine blk_far ?_ NB234_252.out _; refine blk_far ?_ NB234_252.out _; (with_reducible repeat (first | refine kn_ ?_ _ | refine kd_ ?_ | refine ka_ ?_ _)); exact BK234.out⟩, ⟨by repeat (first | (with_reducible first | exact HB.out | apply ba_ | apply bn_ | apply bd_ | refine below_setA ?_ (by assumption)) | exact HB.out)⟩⟩
       ·
        rw [if_neg c40] at H
        have c40b0 : (a0 == 1) = false := beq_eq_false_iff_ne.mpr c40
        have c40b1 : (a0 != 1) = true := bne_iff_ne.mpr c40
        by_cases c61 : a0 = 4
        ·
         rw [if_pos c61] at H
         have c61b0 : (a0 == 4) = true := beq_iff_eq.mpr c61
         have c61b1 : (a0 != 4) = false := bne_eq_false_iff_eq.mpr c61
         clear c61
         replace H := Option.bind_eq_some_iff.mp H
         obtain ⟨t254, A620, H⟩ := H
         try dsimp only at H
         have A62 := As_ A620
         clear A620
         by_cases c63 : t254 = 4
         ·
          rw [if_pos c63] at H
          have c63b0 : (t254 == 4) = true := beq_iff_eq.mpr c63
          have c63b1 : (t254 != 4) = false := bne_eq_false_iff_eq.mpr c63
          clear c63
          have H' := As_ H
          clear H
          have p251 : 0 ≤ (x63_1 : Int) := of_decide_eq_true (by first | (with_reducible assumption) | assumption)
          have q251 : x63_1 < (l2_2.length : Int) := of_decide_eq_true (by first | (with_reducible assumption) | assumption)
          obtain ⟨ad251, e251, hx251_0, hx251_1, hx251_2⟩ := at_T87 HR2_2.out x63_1 p251 q251
          cases e251
          replace hx251_0 := pw_cell_below HB.out hx251_0
          replace hx251_1 := pw_cell_below HB.out hx251_1
          replace hx251_2 := pw_cell_below HB.out hx251_2
          replace p251 := eq_true p251
          replace q251 := eq_true q251
          go_wp2_with (first | ((with_reducible refine gate_dst (N := 13) rfl ?_); refine box_event rfl (N := 13) rfl (cs := #[.int .i64 0, .int .i64 0, .int .i64 0]) (t := 87) ?hr ?_; (case hr => first | (go_simp; done) | (go_simp; rfl)); intro gb252 hg w64 hbox hb; have BK252 := As_ (hbox); have hW_ := bel_ w hb (by repeat (first | (with_reducible first | exact HB.out | apply ba_ | apply bn_ | apply bd_ | refine bs_ ?_ GE234.out) | exact HB.out)); have GE252 := As_ (gesz hg hW_); have NB234_252 := As_ (ne_lt hg BK234.out); have NB252_234 := As_ (ne_gt hg BK234.out); replace BK234 := As_ (blk_b hb BK234.out); replace HB := As_ (below_step hW_ hb); clear hW_ hb hbox hg; have hnb65 := NB252_234.out; have hnc65 := NB234_252.out; obtain ⟨hcz66_0, hcz66_1, hcz66_2⟩ := c3_ (w := w64) BK252.out; obtain ⟨hfz66_0, hfz66_1, hfz66_2⟩ := z3_ BK252.out; obtain ⟨hcz67_0, hcz67_1, hcz67_2⟩ := c3_ (w := w64) BK234.out; obtain ⟨hfz67_0, hfz67_1, hfz67_2⟩ := z3_ BK234.out) | (go_at_call 95; (with_reducible refine (spec_cuCorners.calls k1 a2_0 a2_1 _ _ l2_2 ((rd_T87 l2_2 x63_1).f0) ((rd_T87 l2_2 x63_1).f1) t254 _ ?side1 ?side2 A62.out).mono ?_); (case side1 => exact Kd.C_below HR2_2.out (by repeat (first | (with_reducible first | exact HB.out | apply ba_ | apply bn_ | apply bd_ | refine below_setA ?_ (by assumption)) | exact HB.out))); (case side2 => exact HC2_2.out); rintro e w68 ⟨rfl, hb⟩; replace BK234 := As_ (blk_below (g := gb234) (o := .cells #[.int .i64 a2_0, .int .i64 a2_1, .slice (some ad251) l2_2.length c2_2] 31 (0, 0)) (by (with_reducible repeat (first | refine kn_ ?_ _ | refine kd_ ?_ | refine ka_ ?_ _)); refine blk_far ?_ NB234_252.out _; refine blk_far ?_ NB234_252.out _; refine blk_far ?_ NB234_252.out _; (with_reducible repeat (first | refine kn_ ?_ _ | refine kd_ ?_ | refine ka_ ?_ _)); exact BK234.out) hb); replace BK252 := As_ (blk_below (g := gb252) (o := .cells #[.int .i64 ((rd_T87 l2_2 x63_1).f0), .int .i64 ((rd_T87 l2_2 x63_1).f1), .int .i64 ((rd_T87 l2_2 x63_1).f2)] 87 (0, 0)) (by (with_reducible repeat (first | refine kn_ ?_ _ | refine kd_ ?_ | refine ka_ ?_ _)); refine blk_put (cs := #[.int .i64 ((rd_T87 l2_2 x63_1).f0), .int .i64 ((rd_T87 l2_2 x63_1).f1), .int .i64 0]) ?_ 2 _ rfl; refine blk_put (cs := #[.int .i64 ((rd_T87 l2_2 x63_1).f0), .int .i64 0, .int .i64 0]) ?_ 1 _ rfl; refine blk_put (cs := #[.int .i64 0, .int .i64 0, .int .i64 0]) ?_ 0 _ rfl; (with_reducible repeat (first | refine kn_ ?_ _ | refine kd_ ?_ | refine ka_ ?_ _)); exact BK252.out) hb); replace HB := As_ (below_step (by repeat (first | (with_reducible first | exact HB.out | apply ba_ | apply bn_ | apply bd_ | refine below_setA ?_ (by assumption)) | exact HB.out)) hb); (try clear hb)))
          go_roundg k1
          case measure => have := HK1.out; omega
          case rel => exact ⟨(wrap64 (x7_1 + 1)), (wrap64 (x63_1 + 1)), (by first | rfl | (simp; done) | (simp [*]; done)), (by first | rfl | (simp; done) | (simp [*]; done)), H', ⟨by have := HK1.out; omega⟩, ⟨by (with_reducible repeat (first | refine kn_ ?_ _ | refine kd_ ?_ | refine ka_ ?_ _)); exact BK234.out⟩, ⟨by repeat (first | (with_reducible first | exact HB.out | apply ba_ | apply bn_ | apply bd_ | refine below_setA ?_ (by assumption)) | exact HB.out)⟩⟩
         ·
          rw [if_neg c63] at H
          have c63b0 : (t254 == 4) = false := beq_eq_false_iff_ne.mpr c63
          have c63b1 : (t254 != 4) = true := bne_iff_ne.mpr c63
          have H' := As_ H
          clear H
          have p251 : 0 ≤ (x63_1 : Int) := of_decide_eq_true (by first | (with_reducible assumption) | assumption)
          have q251 : x63_1 < (l2_2.length : Int) := of_decide_eq_true (by first | (with_reducible assumption) | assumption)
          obtain ⟨ad251, e251, hx251_0, hx251_1, hx251_2⟩ := at_T87 HR2_2.out x63_1 p251 q251
          cases e251
          replace hx251_0 := pw_cell_below HB.out hx251_0
          replace hx251_1 := pw_cell_below HB.out hx251_1
          replace hx251_2 := pw_cell_below HB.out hx251_2
          replace p251 := eq_true p251
          replace q251 := eq_true q251
          go_wp2_with (first | ((with_reducible refine gate_dst (N := 13) rfl ?_); refine box_event rfl (N := 13) rfl (cs := #[.int .i64 0, .int .i64 0, .int .i64 0]) (t := 87) ?hr ?_; (case hr => first | (go_simp; done) | (go_simp; rfl)); intro gb252 hg w69 hbox hb; have BK252 := As_ (hbox); have hW_ := bel_ w hb (by repeat (first | (with_reducible first | exact HB.out | apply ba_ | apply bn_ | apply bd_ | refine bs_ ?_ GE234.out) | exact HB.out)); have GE252 := As_ (gesz hg hW_); have NB234_252 := As_ (ne_lt hg BK234.out); have NB252_234 := As_ (ne_gt hg BK234.out); replace BK234 := As_ (blk_b hb BK234.out); replace HB := As_ (below_step hW_ hb); clear hW_ hb hbox hg; have hnb70 := NB252_234.out; have hnc70 := NB234_252.out; obtain ⟨hcz71_0, hcz71_1, hcz71_2⟩ := c3_ (w := w69) BK252.out; obtain ⟨hfz71_0, hfz71_1, hfz71_2⟩ := z3_ BK252.out; obtain ⟨hcz72_0, hcz72_1, hcz72_2⟩ := c3_ (w := w69) BK234.out; obtain ⟨hfz72_0, hfz72_1, hfz72_2⟩ := z3_ BK234.out) | (go_at_call 95; (with_reducible refine (spec_cuCorners.calls k1 a2_0 a2_1 _ _ l2_2 ((rd_T87 l2_2 x63_1).f0) ((rd_T87 l2_2 x63_1).f1) t254 _ ?side1 ?side2 A62.out).mono ?_); (case side1 => exact Kd.C_below HR2_2.out (by repeat (first | (with_reducible first | exact HB.out | apply ba_ | apply bn_ | apply bd_ | refine below_setA ?_ (by assumption)) | exact HB.out))); (case side2 => exact HC2_2.out); rintro e w73 ⟨rfl, hb⟩; replace BK234 := As_ (blk_below (g := gb234) (o := .cells #[.int .i64 a2_0, .int .i64 a2_1, .slice (some ad251) l2_2.length c2_2] 31 (0, 0)) (by (with_reducible repeat (first | refine kn_ ?_ _ | refine kd_ ?_ | refine ka_ ?_ _)); refine blk_far ?_ NB234_252.out _; refine blk_far ?_ NB234_252.out _; refine blk_far ?_ NB234_252.out _; (with_reducible repeat (first | refine kn_ ?_ _ | refine kd_ ?_ | refine ka_ ?_ _)); exact BK234.out) hb); replace BK252 := As_ (blk_below (g := gb252) (o := .cells #[.int .i64 ((rd_T87 l2_2 x63_1).f0), .int .i64 ((rd_T87 l2_2 x63_1).f1), .int .i64 ((rd_T87 l2_2 x63_1).f2)] 87 (0, 0)) (by (with_reducible repeat (first | refine kn_ ?_ _ | refine kd_ ?_ | refine ka_ ?_ _)); refine blk_put (cs := #[.int .i64 ((rd_T87 l2_2 x63_1).f0), .int .i64 ((rd_T87 l2_2 x63_1).f1), .int .i64 0]) ?_ 2 _ rfl; refine blk_put (cs := #[.int .i64 ((rd_T87 l2_2 x63_1).f0), .int .i64 0, .int .i64 0]) ?_ 1 _ rfl; refine blk_put (cs := #[.int .i64 0, .int .i64 0, .int .i64 0]) ?_ 0 _ rfl; (with_reducible repeat (first | refine kn_ ?_ _ | refine kd_ ?_ | refine ka_ ?_ _)); exact BK252.out) hb); replace HB := As_ (below_step (by repeat (first | (with_reducible first | exact HB.out | apply ba_ | apply bn_ | apply bd_ | refine below_setA ?_ (by assumption)) | exact HB.out)) hb); (try clear hb)))
          go_roundg k1
          case measure => have := HK1.out; omega
          case rel => exact ⟨(x7_1), (wrap64 (x63_1 + 1)), (by first | rfl | (simp; done) | (simp [*]; done)), (by first | rfl | (simp; done) | (simp [*]; done)), H', ⟨by have := HK1.out; omega⟩, ⟨by (with_reducible repeat (first | refine kn_ ?_ _ | refine kd_ ?_ | refine ka_ ?_ _)); exact BK234.out⟩, ⟨by repeat (first | (with_reducible first | exact HB.out | apply ba_ | apply bn_ | apply bd_ | refine below_setA ?_ (by assumption)) | exact HB.out)⟩⟩
        ·
         rw [if_neg c61] at H
         have c61b0 : (a0 == 4) = false := beq_eq_false_iff_ne.mpr c61
         have c61b1 : (a0 != 4) = true := bne_iff_ne.mpr c61
         have H' := As_ H
         clear H
         have p251 : 0 ≤ (x63_1 : Int) := of_decide_eq_true (by first | (with_reducible assumption) | assumption)
         have q251 : x63_1 < (l2_2.length : Int) := of_decide_eq_true (by first | (with_reducible assumption) | assumption)
         obtain ⟨ad251, e251, hx251_0, hx251_1, hx251_2⟩ := at_T87 HR2_2.out x63_1 p251 q251
         cases e251
         replace hx251_0 := pw_cell_below HB.out hx251_0
         replace hx251_1 := pw_cell_below HB.out hx251_1
         replace hx251_2 := pw_cell_below HB.out hx251_2
         replace p251 := eq_true p251
         replace q251 := eq_true q251
         go_wp2_with (first | ((with_reducible refine gate_dst (N := 13) rfl ?_); refine box_event rfl (N := 13) rfl (cs := #[.int .i64 0, .int .i64 0, .int .i64 0]) (t := 87) ?hr ?_; (case hr => first | (go_simp; done) | (go_simp; rfl)); intro gb252 hg w74 hbox hb; have BK252 := As_ (hbox); have hW_ := bel_ w hb (by repeat (first | (with_reducible first | exact HB.out | apply ba_ | apply bn_ | apply bd_ | refine bs_ ?_ GE234.out) | exact HB.out)); have GE252 := As_ (gesz hg hW_); have NB234_252 := As_ (ne_lt hg BK234.out); have NB252_234 := As_ (ne_gt hg BK234.out); replace BK234 := As_ (blk_b hb BK234.out); replace HB := As_ (below_step hW_ hb); clear hW_ hb hbox hg; have hnb75 := NB252_234.out; have hnc75 := NB234_252.out; obtain ⟨hcz76_0, hcz76_1, hcz76_2⟩ := c3_ (w := w74) BK252.out; obtain ⟨hfz76_0, hfz76_1, hfz76_2⟩ := z3_ BK252.out))
         go_roundg k1
         case measure => have := HK1.out; omega
         case rel => exact ⟨(x7_1), (wrap64 (x63_1 + 1)), (by first | rfl | (simp; done) | (simp [*]; done)), (by first | rfl | (simp; done) | (simp [*]; done)), H', ⟨by have := HK1.out; omega⟩, ⟨by (with_reducible repeat (first | refine kn_ ?_ _ | refine kd_ ?_ | refine ka_ ?_ _)); refine blk_far ?_ NB234_252.out _; refine blk_far ?_ NB234_252.out _; refine blk_far ?_ NB234_252.out _; (with_reducible repeat (first | refine kn_ ?_ _ | refine kd_ ?_ | refine ka_ ?_ _)); exact BK234.out⟩, ⟨by repeat (first | (with_reducible first | exact HB.out | apply ba_ | apply bn_ | apply bd_ | refine below_setA ?_ (by assumption)) | exact HB.out)⟩⟩
      ·
       rw [if_neg c37] at H
       have c37b0 : decide (x63_1 < (l2_2.length : Int)) = false := decide_eq_false c37
       clear c37
       obtain rfl := Option.some.inj H
       go_wp2
       go_ret
       exact ⟨by first | rfl | (simp <;> rfl) | (simp [*] <;> rfl), by repeat (first | (with_reducible first | exact HB.out | apply ba_ | apply bn_ | apply bd_ | refine bs_ ?_ GE234.out) | exact HB.out)⟩

/-! ### spec_pzOf: function 45 -/
def spec_pzOf.f (k : Nat) (a0 : Int) (a1 : Int) (a2_0 : Int) (a2_1 : Int) (l2_2 : List (S87)) : Option (Int × Int × Int) := (spec_pzAlone.f a0).bind fun t257 => (if t257 = true then ((spec_pzValue.f k a0 0 a2_0 a2_1 l2_2).bind fun t258 => (some (a0, t258, 0))) else ((spec_pzValue.f k a0 a1 a2_0 a2_1 l2_2).bind fun t259 => (some (a0, a1, t259))))
theorem spec_pzOf.mono : ∀ a0 a1 a2 a3 a4 k, LeO (spec_pzOf.f k a0 a1 a2 a3 a4) (spec_pzOf.f (k + 1) a0 a1 a2 a3 a4) := by
 intro a0 a1 a2 a3 a4 k
 unfold spec_pzOf.f
 repeat' first
   | (with_reducible exact spec_pzValue.mono _ _ _ _ _ _)
   | (with_reducible exact LeO.refl _)
   | (with_reducible exact LeO.none _)
   | (with_reducible refine LeO.ite ?_ ?_)
   | (with_reducible refine LeO.bind ?_ (fun _ => ?_))
   | exact spec_pzValue.mono _ _ _ _ _ _
   | exact LeO.none _
   | refine LeO.ite ?_ ?_
   | refine LeO.bind ?_ (fun _ => ?_)
set_option maxHeartbeats 8000000 in
set_option maxRecDepth 100000 in
theorem spec_pzOf.calls (k : Nat) (a0 : Int) (a1 : Int) (a2_0 : Int) (a2_1 : Int) (A2_2 : Option Addr) (c2_2 : Nat) (l2_2 : List (S87)) (r1 : Int) (r2 : Int) (r3 : Int) (w : World) (hr2_2 : Kd.C k87 w A2_2 l2_2.length l2_2) (hc2_2 : l2_2.length ≤ c2_2) (h : spec_pzOf.f k a0 a1 a2_0 a2_1 l2_2 = some (r1, r2, r3)) :
  Calls Try.prog 45 #[.int .i64 a0, .int .i64 a1, .agg #[.int .i64 a2_0, .int .i64 a2_1, .slice A2_2 l2_2.length c2_2]] w fun e w' => e = .returned (.agg #[.int .i64 r1, .int .i64 r2, .int .i64 r3]) ∧ Below w.heap.size w w' := by
 have hu31 := Try.underlying31
 have hu42 := Try.underlying42
 have HR2_2 := As_ hr2_2
 have HC2_2 := As_ hc2_2
 clear hr2_2 hc2_2
 have HB := As_ (Below.refl w.heap.size w)
 have H : ((spec_pzAlone.f a0).bind fun t257 => (if t257 = true then ((spec_pzValue.f k a0 0 a2_0 a2_1 l2_2).bind fun t258 => (some (a0, t258, 0))) else ((spec_pzValue.f k a0 a1 a2_0 a2_1 l2_2).bind fun t259 => (some (a0, a1, t259))))) = some (r1, r2, r3) := h
 clear h
 replace H := Option.bind_eq_some_iff.mp H
 obtain ⟨t257, A40, H⟩ := H
 replace H : (if t257 = true then ((spec_pzValue.f k a0 0 a2_0 a2_1 l2_2).bind fun t258 => (some (a0, t258, 0))) else ((spec_pzValue.f k a0 a1 a2_0 a2_1 l2_2).bind fun t259 => (some (a0, a1, t259)))) = some (r1, r2, r3) := H
 have A4 := As_ A40
 clear A40
 by_cases c5 : t257 = true
 ·
  subst c5
  have H1 : ((spec_pzValue.f k a0 0 a2_0 a2_1 l2_2).bind fun t258 => (some (a0, t258, 0))) = some (r1, r2, r3) := by rw [if_pos rfl] at H; exact H
  clear H
  have H := H1
  clear H1
  replace H := Option.bind_eq_some_iff.mp H
  obtain ⟨t258, A60, H⟩ := H
  replace H : (some (a0, t258, 0)) = some (r1, r2, r3) := H
  have A6 := As_ A60
  clear A60
  simp only [Option.some.injEq, Prod.mk.injEq] at H
  obtain ⟨rfl, rfl, rfl⟩ := H
  go_enter Try.func45, Try.ntmps45
  go_wp2_with (first | ((with_reducible refine gate_dst (N := 5) rfl ?_); refine box_event rfl (N := 5) rfl (cs := #[.int .i64 a2_0, .int .i64 a2_1, .slice A2_2 l2_2.length c2_2]) (t := 31) ?hr ?_; (case hr => first | (go_simp; done) | (go_simp; rfl)); intro gb255 hg w7 hbox hb; have BK255 := As_ (hbox); have hW_ := bel_ w hb (by repeat (first | (with_reducible first | exact HB.out | apply ba_ | apply bn_ | apply bd_) | exact HB.out)); have GE255 := As_ (gesz hg hW_); replace HB := As_ (below_step hW_ hb); clear hW_ hb hbox hg) | ((with_reducible refine gate_dst (N := 6) rfl ?_); refine box_event rfl (N := 6) rfl (cs := #[.int .i64 0, .int .i64 0, .int .i64 0]) (t := 42) ?hr ?_; (case hr => first | (go_simp; done) | (go_simp; rfl)); intro gb256 hg w8 hbox hb; have BK256 := As_ (hbox); have hW_ := bel_ w hb (by repeat (first | (with_reducible first | exact HB.out | apply ba_ | apply bn_ | apply bd_ | refine bs_ ?_ GE255.out) | exact HB.out)); have GE256 := As_ (gesz hg hW_); have NB255_256 := As_ (ne_lt hg BK255.out); have NB256_255 := As_ (ne_gt hg BK255.out); replace BK255 := As_ (blk_b hb BK255.out); replace HB := As_ (below_step hW_ hb); clear hW_ hb hbox hg) | ((with_reducible refine gate_callee (f := 44) rfl ?_); refine goesL_ (some 8) rfl rfl Try.func44 (by kernel_rfl) rfl #[.int .i64 a0] rfl (by (try simp only [List.map_toArray, List.map_cons, List.map_nil]); first | done | rfl | (simp only [List.length_drop, List.length_take]; rfl)) ?_; (with_reducible refine (spec_pzAlone.calls a0 true _ A4.out).mono ?_); rintro e w' ⟨rfl, ⟨nd, rfl⟩⟩; refine ⟨_, rfl, ?_⟩; (try (rw [drewN_self w8]; generalize hq_ : World.drewN w8 _ = w8; have n0_ : Aside0 (w8.heap[gb255]? = some (.cells #[.int .i64 a2_0, .int .i64 a2_1, .slice A2_2 l2_2.length c2_2] 31 (0, 0))) := ⟨by rw [← hq_]; exact BK255.out⟩; have n1_ : Aside0 (w8.heap[gb256]? = some (.cells #[.int .i64 0, .int .i64 0, .int .i64 0] 42 (0, 0))) := ⟨by rw [← hq_]; exact BK256.out⟩; have n2_ : Aside0 (Below w.heap.size w w8) := ⟨by rw [← hq_]; exact (by repeat (first | (with_reducible first | exact HB.out | apply ba_ | apply bn_ | apply bd_ | refine below_setA ?_ (by assumption)) | exact HB.out))⟩; clear BK255 BK256 HB hq_; have BK255 := n0_; have BK256 := n1_; have HB := n2_; clear n0_ n1_ n2_)); have hnb9 := NB255_256.out; have hnc9 := NB256_255.out; obtain ⟨hcz10_0, hcz10_1, hcz10_2⟩ := c3_ (w := w8) BK255.out; obtain ⟨hfz10_0, hfz10_1, hfz10_2⟩ := z3_ BK255.out) | ((with_reducible refine gate_callee (f := 70) rfl ?_); refine goesL_ (some 12) rfl rfl Try.func70 (by kernel_rfl) rfl #[.int .i64 a0, .int .i64 0, .agg #[.int .i64 a2_0, .int .i64 a2_1, .slice A2_2 l2_2.length c2_2]] rfl (by (try simp only [List.map_toArray, List.map_cons, List.map_nil]); first | done | rfl | (simp only [List.length_drop, List.length_take]; rfl)) ?_; (with_reducible refine (spec_pzValue.calls k a0 0 a2_0 a2_1 _ _ l2_2 t258 _ ?side1 ?side2 A6.out).mono ?_); (case side1 => repeat (first | exact (Kd.C_below HR2_2.out HB.out) | (with_reducible refine Kd.C_alloc ?_ _) | (with_reducible refine Kd.C_drewN ?_ _) | (with_reducible refine Kd.C_drew ?_))); (case side2 => exact HC2_2.out); rintro e w11 ⟨rfl, hb⟩; refine ⟨_, rfl, ?_⟩; replace BK255 := As_ (blk_b hb BK255.out); replace BK256 := As_ (blk_b hb BK256.out); replace HB := As_ (below_step (by repeat (first | (with_reducible first | exact HB.out | apply ba_ | apply bn_ | apply bd_ | refine below_setA ?_ (by assumption)) | exact HB.out)) hb); (try clear hb); obtain ⟨hcz12_0, hcz12_1, hcz12_2⟩ := c3_ (w := w11) BK256.out; obtain ⟨hfz12_0, hfz12_1, hfz12_2⟩ := z3_ BK256.out))
  refine bodyPost_ret (results_cell_row rfl _ _ gb256 42 #[.int .i64 a0, .int .i64 t258, .int .i64 0] (0, 0) _ rfl (by (with_reducible repeat (first | refine kn_ ?_ _ | refine kd_ ?_ | refine ka_ ?_ _)); refine blk_put (cs := #[.int .i64 a0, .int .i64 t258, .int .i64 0]) ?_ 2 _ rfl; refine blk_put (cs := #[.int .i64 a0, .int .i64 0, .int .i64 0]) ?_ 1 _ rfl; refine blk_put (cs := #[.int .i64 0, .int .i64 0, .int .i64 0]) ?_ 0 _ rfl; (with_reducible repeat (first | refine kn_ ?_ _ | refine kd_ ?_ | refine ka_ ?_ _)); exact BK256.out) Try.underlying42 rfl (by kernel_rfl)) rfl ?_
  exact ⟨by first | rfl | (simp <;> rfl) | (simp [*] <;> rfl), by repeat (first | (with_reducible first | exact HB.out | apply ba_ | apply bn_ | apply bd_ | refine below_setA ?_ (by assumption)) | exact HB.out)⟩
 ·
  replace c5 := Bool.eq_false_iff.mpr c5
  subst c5
  have H1 : ((spec_pzValue.f k a0 a1 a2_0 a2_1 l2_2).bind fun t259 => (some (a0, a1, t259))) = some (r1, r2, r3) := by rw [if_neg (show ¬ (false = true) by decide)] at H; exact H
  clear H
  have H := H1
  clear H1
  replace H := Option.bind_eq_some_iff.mp H
  obtain ⟨t259, A130, H⟩ := H
  replace H : (some (a0, a1, t259)) = some (r1, r2, r3) := H
  have A13 := As_ A130
  clear A130
  simp only [Option.some.injEq, Prod.mk.injEq] at H
  obtain ⟨rfl, rfl, rfl⟩ := H
  go_enter Try.func45, Try.ntmps45
  go_wp2_with (first | ((with_reducible refine gate_dst (N := 5) rfl ?_); refine box_event rfl (N := 5) rfl (cs := #[.int .i64 a2_0, .int .i64 a2_1, .slice A2_2 l2_2.length c2_2]) (t := 31) ?hr ?_; (case hr => first | (go_simp; done) | (go_simp; rfl)); intro gb255 hg w14 hbox hb; have BK255 := As_ (hbox); have hW_ := bel_ w hb (by repeat (first | (with_reducible first | exact HB.out | apply ba_ | apply bn_ | apply bd_) | exact HB.out)); have GE255 := As_ (gesz hg hW_); replace HB := As_ (below_step hW_ hb); clear hW_ hb hbox hg) | ((with_reducible refine gate_dst (N := 6) rfl ?_); refine box_event rfl (N := 6) rfl (cs := #[.int .i64 0, .int .i64 0, .int .i64 0]) (t := 42) ?hr ?_; (case hr => first | (go_simp; done) | (go_simp; rfl)); intro gb256 hg w15 hbox hb; have BK256 := As_ (hbox); have hW_ := bel_ w hb (by repeat (first | (with_reducible first | exact HB.out | apply ba_ | apply bn_ | apply bd_ | refine bs_ ?_ GE255.out) | exact HB.out)); have GE256 := As_ (gesz hg hW_); have NB255_256 := As_ (ne_lt hg BK255.out); have NB256_255 := As_ (ne_gt hg BK255.out); replace BK255 := As_ (blk_b hb BK255.out); replace HB := As_ (below_step hW_ hb); clear hW_ hb hbox hg) | ((with_reducible refine gate_callee (f := 44) rfl ?_); refine goesL_ (some 8) rfl rfl Try.func44 (by kernel_rfl) rfl #[.int .i64 a0] rfl (by (try simp only [List.map_toArray, List.map_cons, List.map_nil]); first | done | rfl | (simp only [List.length_drop, List.length_take]; rfl)) ?_; (with_reducible refine (spec_pzAlone.calls a0 false _ A4.out).mono ?_); rintro e w' ⟨rfl, ⟨nd, rfl⟩⟩; refine ⟨_, rfl, ?_⟩; (try (rw [drewN_self w15]; generalize hq_ : World.drewN w15 _ = w15; have n0_ : Aside0 (w15.heap[gb255]? = some (.cells #[.int .i64 a2_0, .int .i64 a2_1, .slice A2_2 l2_2.length c2_2] 31 (0, 0))) := ⟨by rw [← hq_]; exact BK255.out⟩; have n1_ : Aside0 (w15.heap[gb256]? = some (.cells #[.int .i64 0, .int .i64 0, .int .i64 0] 42 (0, 0))) := ⟨by rw [← hq_]; exact BK256.out⟩; have n2_ : Aside0 (Below w.heap.size w w15) := ⟨by rw [← hq_]; exact (by repeat (first | (with_reducible first | exact HB.out | apply ba_ | apply bn_ | apply bd_ | refine below_setA ?_ (by assumption)) | exact HB.out))⟩; clear BK255 BK256 HB hq_; have BK255 := n0_; have BK256 := n1_; have HB := n2_; clear n0_ n1_ n2_)); have hnb16 := NB255_256.out; have hnc16 := NB256_255.out; obtain ⟨hcz17_0, hcz17_1, hcz17_2⟩ := c3_ (w := w15) BK255.out; obtain ⟨hfz17_0, hfz17_1, hfz17_2⟩ := z3_ BK255.out) | ((with_reducible refine gate_callee (f := 70) rfl ?_); refine goesL_ (some 19) rfl rfl Try.func70 (by kernel_rfl) rfl #[.int .i64 a0, .int .i64 a1, .agg #[.int .i64 a2_0, .int .i64 a2_1, .slice A2_2 l2_2.length c2_2]] rfl (by (try simp only [List.map_toArray, List.map_cons, List.map_nil]); first | done | rfl | (simp only [List.length_drop, List.length_take]; rfl)) ?_; (with_reducible refine (spec_pzValue.calls k a0 a1 a2_0 a2_1 _ _ l2_2 t259 _ ?side1 ?side2 A13.out).mono ?_); (case side1 => repeat (first | exact (Kd.C_below HR2_2.out HB.out) | (with_reducible refine Kd.C_alloc ?_ _) | (with_reducible refine Kd.C_drewN ?_ _) | (with_reducible refine Kd.C_drew ?_))); (case side2 => exact HC2_2.out); rintro e w18 ⟨rfl, hb⟩; refine ⟨_, rfl, ?_⟩; replace BK255 := As_ (blk_b hb BK255.out); replace BK256 := As_ (blk_b hb BK256.out); replace HB := As_ (below_step (by repeat (first | (with_reducible first | exact HB.out | apply ba_ | apply bn_ | apply bd_ | refine below_setA ?_ (by assumption)) | exact HB.out)) hb); (try clear hb); obtain ⟨hcz19_0, hcz19_1, hcz19_2⟩ := c3_ (w := w18) BK256.out; obtain ⟨hfz19_0, hfz19_1, hfz19_2⟩ := z3_ BK256.out))
  refine bodyPost_ret (results_cell_row rfl _ _ gb256 42 #[.int .i64 a0, .int .i64 a1, .int .i64 t259] (0, 0) _ rfl (by (with_reducible repeat (first | refine kn_ ?_ _ | refine kd_ ?_ | refine ka_ ?_ _)); refine blk_put (cs := #[.int .i64 a0, .int .i64 a1, .int .i64 0]) ?_ 2 _ rfl; refine blk_put (cs := #[.int .i64 a0, .int .i64 0, .int .i64 0]) ?_ 1 _ rfl; refine blk_put (cs := #[.int .i64 0, .int .i64 0, .int .i64 0]) ?_ 0 _ rfl; (with_reducible repeat (first | refine kn_ ?_ _ | refine kd_ ?_ | refine ka_ ?_ _)); exact BK256.out) Try.underlying42 rfl (by kernel_rfl)) rfl ?_
  exact ⟨by first | rfl | (simp <;> rfl) | (simp [*] <;> rfl), by repeat (first | (with_reducible first | exact HB.out | apply ba_ | apply bn_ | apply bd_ | refine below_setA ?_ (by assumption)) | exact HB.out)⟩

end Go.Proofs.Ytipiaiolhhnnhaa.PFnExactMakePuzzle
