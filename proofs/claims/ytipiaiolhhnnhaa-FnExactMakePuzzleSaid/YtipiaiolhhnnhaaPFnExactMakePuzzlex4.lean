-- Written by a program of this session (wip/tools/pg.py) out of the translation.
import Derived.Test.YtipiaiolhhnnhaaPFnExactMakePuzzlex0
import Derived.Test.YtipiaiolhhnnhaaPFnExactMakePuzzlex2
import Derived.Test.YtipiaiolhhnnhaaPFnExactMakePuzzlex3
namespace Go.Proofs.Ytipiaiolhhnnhaa.PFnExactMakePuzzle
open Go.RowKit Go.Proofs.YtipiaiolhhnnhaaW.PrintWords Go.Proofs.YtipiaiolhhnnhaaW.PrintLast Go.Proofs.YtipiaiolhhnnhaaW.PrintMore Go.Proofs.YtipiaiolhhnnhaaH
attribute [local go_sem] max2_int min2_int max_two min_two max_three min_three max_four min_four   -- for this text's walks alone
set_option linter.unusedVariables false
set_option linter.unusedSimpArgs false

/-! ### spec_ctSize: function 89 -/
def spec_ctSize.f (a0 : Int) (a1 : Int) : Option (Bool) := (spec_l1In.f a0 1 6).bind fun t152 => (if t152 = true then ((spec_l1In.f a1 1 6).bind fun t153 => (some t153)) else (some false))
set_option maxHeartbeats 8000000 in
set_option maxRecDepth 100000 in
theorem spec_ctSize.calls (a0 : Int) (a1 : Int) (r : Bool) (w : World) (h : spec_ctSize.f a0 a1 = some r) :
  Calls Try.prog 89 #[.int .i64 a0, .int .i64 a1] w fun e w' => e = .returned (.bool r) ∧ Drawn0 w w' := by
 have H : ((spec_l1In.f a0 1 6).bind fun t152 => (if t152 = true then ((spec_l1In.f a1 1 6).bind fun t153 => (some t153)) else (some false))) = some r := h
 clear h
 replace H := Option.bind_eq_some_iff.mp H
 obtain ⟨t152, A30, H⟩ := H
 try dsimp only at H
 have A3 := As_ A30
 clear A30
 by_cases c4 : t152 = true
 ·
  subst c4
  have H1 : ((spec_l1In.f a1 1 6).bind fun t153 => (some t153)) = some r := by rw [if_pos rfl] at H; exact H
  clear H
  have H := H1
  clear H1
  replace H := Option.bind_eq_some_iff.mp H
  obtain ⟨t153, A50, H⟩ := H
  try dsimp only at H
  have A5 := As_ A50
  clear A50
  obtain rfl := Option.some.inj H
  go_enter Try.func89, Try.ntmps89
  go_wp2_with (first | ((with_reducible refine gate_callee (f := 42) rfl ?_); refine goesL_ (some 6) rfl rfl Try.func42 (by kernel_rfl) rfl #[.int .i64 a0, .int .i64 1, .int .i64 6] rfl (by (try simp only [List.map_toArray, List.map_cons, List.map_nil]); first | done | rfl | (simp only [List.length_drop, List.length_take]; rfl)) ?_; (with_reducible refine (spec_l1In.calls a0 1 6 true _ A3.out).mono ?_); rintro e w' ⟨rfl, ⟨nd, rfl⟩⟩; refine ⟨_, rfl, ?_⟩) | (go_at_call 42; (with_reducible refine (spec_l1In.calls a1 1 6 t153 _ A5.out).mono ?_); rintro e w' ⟨rfl, ⟨nd, rfl⟩⟩))
  go_ret
  exact ⟨by first | rfl | (simp; done) | (simp [*]; done), by repeat (first | exact Drawn0.refl _ | apply Drawn0.step)⟩
 ·
  replace c4 := Bool.eq_false_iff.mpr c4
  subst c4
  have H1 : (some false) = some r := by rw [if_neg (show ¬ (false = true) by decide)] at H; exact H
  clear H
  have H := H1
  clear H1
  obtain rfl := Option.some.inj H
  go_enter Try.func89, Try.ntmps89
  go_wp2_with (first | ((with_reducible refine gate_callee (f := 42) rfl ?_); refine goesL_ (some 6) rfl rfl Try.func42 (by kernel_rfl) rfl #[.int .i64 a0, .int .i64 1, .int .i64 6] rfl (by (try simp only [List.map_toArray, List.map_cons, List.map_nil]); first | done | rfl | (simp only [List.length_drop, List.length_take]; rfl)) ?_; (with_reducible refine (spec_l1In.calls a0 1 6 false _ A3.out).mono ?_); rintro e w' ⟨rfl, ⟨nd, rfl⟩⟩; refine ⟨_, rfl, ?_⟩))
  go_ret
  exact ⟨by first | rfl | (simp; done) | (simp [*]; done), by repeat (first | exact Drawn0.refl _ | apply Drawn0.step)⟩

/-! ### spec_pzSize: function 69 -/
def spec_pzSize.f (a0 : Int) (a1 : Int) : Option (Bool) := (spec_ctSize.f a0 a1).bind fun t154 => (if t154 = true then (some (decide ((wrap64 (a0 * a1)) ≤ 12))) else (some false))
set_option maxHeartbeats 8000000 in
set_option maxRecDepth 100000 in
theorem spec_pzSize.calls (a0 : Int) (a1 : Int) (r : Bool) (w : World) (h : spec_pzSize.f a0 a1 = some r) :
  Calls Try.prog 69 #[.int .i64 a0, .int .i64 a1] w fun e w' => e = .returned (.bool r) ∧ Drawn0 w w' := by
 have H : ((spec_ctSize.f a0 a1).bind fun t154 => (if t154 = true then (some (decide ((wrap64 (a0 * a1)) ≤ 12))) else (some false))) = some r := h
 clear h
 replace H := Option.bind_eq_some_iff.mp H
 obtain ⟨t154, A30, H⟩ := H
 try dsimp only at H
 have A3 := As_ A30
 clear A30
 by_cases c4 : t154 = true
 ·
  subst c4
  have H1 : (some (decide ((wrap64 (a0 * a1)) ≤ 12))) = some r := by rw [if_pos rfl] at H; exact H
  clear H
  have H := H1
  clear H1
  obtain rfl := Option.some.inj H
  go_enter Try.func69, Try.ntmps69
  go_wp2_with (first | ((with_reducible refine gate_callee (f := 89) rfl ?_); refine goesL_ (some 7) rfl rfl Try.func89 (by kernel_rfl) rfl #[.int .i64 a0, .int .i64 a1] rfl (by (try simp only [List.map_toArray, List.map_cons, List.map_nil]); first | done | rfl | (simp only [List.length_drop, List.length_take]; rfl)) ?_; (with_reducible refine (spec_ctSize.calls a0 a1 true _ A3.out).mono ?_); rintro e w' ⟨rfl, ⟨nd, rfl⟩⟩; refine ⟨_, rfl, ?_⟩))
  go_ret
  exact ⟨by first | rfl | (simp; done) | (simp [*]; done), by repeat (first | exact Drawn0.refl _ | apply Drawn0.step)⟩
 ·
  replace c4 := Bool.eq_false_iff.mpr c4
  subst c4
  have H1 : (some false) = some r := by rw [if_neg (show ¬ (false = true) by decide)] at H; exact H
  clear H
  have H := H1
  clear H1
  obtain rfl := Option.some.inj H
  go_enter Try.func69, Try.ntmps69
  go_wp2_with (first | ((with_reducible refine gate_callee (f := 89) rfl ?_); refine goesL_ (some 7) rfl rfl Try.func89 (by kernel_rfl) rfl #[.int .i64 a0, .int .i64 a1] rfl (by (try simp only [List.map_toArray, List.map_cons, List.map_nil]); first | done | rfl | (simp only [List.length_drop, List.length_take]; rfl)) ?_; (with_reducible refine (spec_ctSize.calls a0 a1 false _ A3.out).mono ?_); rintro e w' ⟨rfl, ⟨nd, rfl⟩⟩; refine ⟨_, rfl, ?_⟩))
  go_ret
  exact ⟨by first | rfl | (simp; done) | (simp [*]; done), by repeat (first | exact Drawn0.refl _ | apply Drawn0.step)⟩

/-! ### spec_pzHidden: function 36 -/
def spec_pzHidden.f (k : Nat) (a0_0 : Int) (a0_1 : Int) (l0_2 : List (S87)) : Option (Bool) := (spec_cuGood.f k a0_0 a0_1 l0_2).bind fun t156 => (if t156 = true then ((spec_pzSize.f a0_0 a0_1).bind fun t157 => (some t157)) else (some false))
theorem spec_pzHidden.mono : ∀ a0 a1 a2 k, LeO (spec_pzHidden.f k a0 a1 a2) (spec_pzHidden.f (k + 1) a0 a1 a2) := by
 intro a0 a1 a2 k
 unfold spec_pzHidden.f
 repeat' first
   | (with_reducible exact spec_cuGood.mono _ _ _ _)
   | (with_reducible exact LeO.refl _)
   | (with_reducible exact LeO.none _)
   | (with_reducible refine LeO.ite ?_ ?_)
   | (with_reducible refine LeO.bind ?_ (fun _ => ?_))
   | exact spec_cuGood.mono _ _ _ _
   | exact LeO.none _
   | refine LeO.ite ?_ ?_
   | refine LeO.bind ?_ (fun _ => ?_)
set_option maxHeartbeats 8000000 in
set_option maxRecDepth 100000 in
theorem spec_pzHidden.calls (k : Nat) (a0_0 : Int) (a0_1 : Int) (A0_2 : Option Addr) (c0_2 : Nat) (l0_2 : List (S87)) (r : Bool) (w : World) (hr0_2 : Kd.C k87 w A0_2 l0_2.length l0_2) (hc0_2 : l0_2.length ≤ c0_2) (h : spec_pzHidden.f k a0_0 a0_1 l0_2 = some r) :
  Calls Try.prog 36 #[.agg #[.int .i64 a0_0, .int .i64 a0_1, .slice A0_2 l0_2.length c0_2]] w fun e w' => e = .returned (.bool r) ∧ Below w.heap.size w w' := by
 have hu31 := Try.underlying31
 have HR0_2 := As_ hr0_2
 have HC0_2 := As_ hc0_2
 clear hr0_2 hc0_2
 have HB := As_ (Below.refl w.heap.size w)
 have H : ((spec_cuGood.f k a0_0 a0_1 l0_2).bind fun t156 => (if t156 = true then ((spec_pzSize.f a0_0 a0_1).bind fun t157 => (some t157)) else (some false))) = some r := h
 clear h
 replace H := Option.bind_eq_some_iff.mp H
 obtain ⟨t156, A20, H⟩ := H
 try dsimp only at H
 have A2 := As_ A20
 clear A20
 by_cases c3 : t156 = true
 ·
  subst c3
  have H1 : ((spec_pzSize.f a0_0 a0_1).bind fun t157 => (some t157)) = some r := by rw [if_pos rfl] at H; exact H
  clear H
  have H := H1
  clear H1
  replace H := Option.bind_eq_some_iff.mp H
  obtain ⟨t157, A40, H⟩ := H
  try dsimp only at H
  have A4 := As_ A40
  clear A40
  obtain rfl := Option.some.inj H
  go_enter Try.func36, Try.ntmps36
  go_wp2_with (first | ((with_reducible refine gate_dst (N := 1) rfl ?_); refine box_event rfl (N := 1) rfl (cs := #[.int .i64 a0_0, .int .i64 a0_1, .slice A0_2 l0_2.length c0_2]) (t := 31) ?hr ?_; (case hr => first | (go_simp; done) | (go_simp; rfl)); intro gb155 hg w5 hbox hb; have BK155 := As_ (hbox); have hW_ := bel_ w hb (by repeat (first | (with_reducible first | exact HB.out | apply ba_ | apply bn_ | apply bd_) | exact HB.out)); have GE155 := As_ (gesz hg hW_); replace HB := As_ (below_step hW_ hb); clear hW_ hb hbox hg; obtain ⟨hcz6_0, hcz6_1, hcz6_2⟩ := c3_ (w := w5) BK155.out; obtain ⟨hfz6_0, hfz6_1, hfz6_2⟩ := z3_ BK155.out) | ((with_reducible refine gate_callee (f := 59) rfl ?_); refine goesL_ (some 4) rfl rfl Try.func59 (by kernel_rfl) rfl #[.agg #[.int .i64 a0_0, .int .i64 a0_1, .slice A0_2 l0_2.length c0_2]] rfl (by (try simp only [List.map_toArray, List.map_cons, List.map_nil]); first | done | rfl | (simp only [List.length_drop, List.length_take]; rfl)) ?_; (with_reducible refine (spec_cuGood.calls k a0_0 a0_1 _ _ l0_2 true _ ?side1 ?side2 A2.out).mono ?_); (case side1 => repeat (first | exact (Kd.C_below HR0_2.out HB.out) | (with_reducible refine Kd.C_alloc ?_ _) | (with_reducible refine Kd.C_drewN ?_ _) | (with_reducible refine Kd.C_drew ?_))); (case side2 => exact HC0_2.out); rintro e w7 ⟨rfl, hb⟩; refine ⟨_, rfl, ?_⟩; replace BK155 := As_ (blk_b hb BK155.out); replace HB := As_ (below_step (by repeat (first | (with_reducible first | exact HB.out | apply ba_ | apply bn_ | apply bd_ | refine bs_ ?_ GE155.out) | exact HB.out)) hb); (try clear hb); obtain ⟨hcz8_0, hcz8_1, hcz8_2⟩ := c3_ (w := w7) BK155.out; obtain ⟨hfz8_0, hfz8_1, hfz8_2⟩ := z3_ BK155.out) | (go_at_call 69; (with_reducible refine (spec_pzSize.calls a0_0 a0_1 t157 _ A4.out).mono ?_); rintro e w' ⟨rfl, ⟨nd, rfl⟩⟩))
  go_ret
  exact ⟨by first | rfl | (simp <;> rfl) | (simp [*] <;> rfl), by repeat (first | (with_reducible first | exact HB.out | apply ba_ | apply bn_ | apply bd_ | refine bs_ ?_ GE155.out) | exact HB.out)⟩
 ·
  replace c3 := Bool.eq_false_iff.mpr c3
  subst c3
  have H1 : (some false) = some r := by rw [if_neg (show ¬ (false = true) by decide)] at H; exact H
  clear H
  have H := H1
  clear H1
  obtain rfl := Option.some.inj H
  go_enter Try.func36, Try.ntmps36
  go_wp2_with (first | ((with_reducible refine gate_dst (N := 1) rfl ?_); refine box_event rfl (N := 1) rfl (cs := #[.int .i64 a0_0, .int .i64 a0_1, .slice A0_2 l0_2.length c0_2]) (t := 31) ?hr ?_; (case hr => first | (go_simp; done) | (go_simp; rfl)); intro gb155 hg w9 hbox hb; have BK155 := As_ (hbox); have hW_ := bel_ w hb (by repeat (first | (with_reducible first | exact HB.out | apply ba_ | apply bn_ | apply bd_) | exact HB.out)); have GE155 := As_ (gesz hg hW_); replace HB := As_ (below_step hW_ hb); clear hW_ hb hbox hg; obtain ⟨hcz10_0, hcz10_1, hcz10_2⟩ := c3_ (w := w9) BK155.out; obtain ⟨hfz10_0, hfz10_1, hfz10_2⟩ := z3_ BK155.out) | ((with_reducible refine gate_callee (f := 59) rfl ?_); refine goesL_ (some 4) rfl rfl Try.func59 (by kernel_rfl) rfl #[.agg #[.int .i64 a0_0, .int .i64 a0_1, .slice A0_2 l0_2.length c0_2]] rfl (by (try simp only [List.map_toArray, List.map_cons, List.map_nil]); first | done | rfl | (simp only [List.length_drop, List.length_take]; rfl)) ?_; (with_reducible refine (spec_cuGood.calls k a0_0 a0_1 _ _ l0_2 false _ ?side1 ?side2 A2.out).mono ?_); (case side1 => repeat (first | exact (Kd.C_below HR0_2.out HB.out) | (with_reducible refine Kd.C_alloc ?_ _) | (with_reducible refine Kd.C_drewN ?_ _) | (with_reducible refine Kd.C_drew ?_))); (case side2 => exact HC0_2.out); rintro e w11 ⟨rfl, hb⟩; refine ⟨_, rfl, ?_⟩; replace BK155 := As_ (blk_b hb BK155.out); replace HB := As_ (below_step (by repeat (first | (with_reducible first | exact HB.out | apply ba_ | apply bn_ | apply bd_ | refine bs_ ?_ GE155.out) | exact HB.out)) hb); (try clear hb)))
  go_ret
  exact ⟨by first | rfl | (simp <;> rfl) | (simp [*] <;> rfl), by repeat (first | (with_reducible first | exact HB.out | apply ba_ | apply bn_ | apply bd_ | refine bs_ ?_ GE155.out) | exact HB.out)⟩

/-! ### spec_pzNext: function 43 -/
def spec_pzNext.f (a0 : Int) : Option (Int) := some (Int.tmod (wrap64 ((wrap64 (167 * a0)) + 2411)) 10007)
set_option maxHeartbeats 8000000 in
set_option maxRecDepth 100000 in
theorem spec_pzNext.calls (a0 : Int) (r : Int) (w : World) (h : spec_pzNext.f a0 = some r) :
  Calls Try.prog 43 #[.int .i64 a0] w fun e w' => e = .returned (.int .i64 r) ∧ Drawn0 w w' := by
 have H : (some (Int.tmod (wrap64 ((wrap64 (167 * a0)) + 2411)) 10007)) = some r := h
 clear h
 obtain rfl := Option.some.inj H
 go_enter Try.func43, Try.ntmps43
 go_wp2
 go_ret
 exact ⟨by first | rfl | (simp; done) | (simp [*]; done), by repeat (first | exact Drawn0.refl _ | apply Drawn0.step)⟩

/-! ### spec_pzAlone: function 44 -/
def spec_pzAlone.f (a0 : Int) : Option (Bool) := if a0 = 0 then (some true) else (some (decide (a0 > 3)))
set_option maxHeartbeats 8000000 in
set_option maxRecDepth 100000 in
theorem spec_pzAlone.calls (a0 : Int) (r : Bool) (w : World) (h : spec_pzAlone.f a0 = some r) :
  Calls Try.prog 44 #[.int .i64 a0] w fun e w' => e = .returned (.bool r) ∧ Drawn0 w w' := by
 have H : (if a0 = 0 then (some true) else (some (decide (a0 > 3)))) = some r := h
 clear h
 by_cases c2 : a0 = 0
 ·
  rw [if_pos c2] at H
  have c2b0 : (a0 == 0) = true := beq_iff_eq.mpr c2
  have c2b1 : (a0 != 0) = false := bne_eq_false_iff_eq.mpr c2
  clear c2
  obtain rfl := Option.some.inj H
  go_enter Try.func44, Try.ntmps44
  go_wp2
  go_ret
  exact ⟨by first | rfl | (simp; done) | (simp [*]; done), by repeat (first | exact Drawn0.refl _ | apply Drawn0.step)⟩
 ·
  rw [if_neg c2] at H
  have c2b0 : (a0 == 0) = false := beq_eq_false_iff_ne.mpr c2
  have c2b1 : (a0 != 0) = true := bne_iff_ne.mpr c2
  obtain rfl := Option.some.inj H
  go_enter Try.func44, Try.ntmps44
  go_wp2
  go_ret
  exact ⟨by first | rfl | (simp; done) | (simp [*]; done), by repeat (first | exact Drawn0.refl _ | apply Drawn0.step)⟩

/-! ### spec_SquareAt: function 90 -/
mutual
def spec_SquareAt.j0 : Nat → Int → Int → Bool → Int → Int → List (S87) → Option (Int × Bool)
 | 0, _, _, _, _, _, _ => none
 | k + 1, x1, x2, x28, x159000, x159001, x159002 => if x28 = true then (some (0, false)) else (spec_SquareAt.l0 k x1 x2 x159002 (x159002.length : Int) 0)
def spec_SquareAt.l0 : Nat → Int → Int → List (S87) → Int → Int → Option (Int × Bool)
 | 0, _, _, _, _, _ => none
 | k + 1, x1, x2, x30, x31, x32 => if x32 < x31 then (if 0 ≤ x32 then (if x32 < (x30.length : Int) then ((spec_l1In.f x1 ((rd_T87 x30 x32).f0) (wrap64 ((wrap64 (((rd_T87 x30 x32).f0) + ((rd_T87 x30 x32).f2))) - 1))).bind fun t164 => (if t164 = true then ((spec_l1In.f x2 ((rd_T87 x30 x32).f1) (wrap64 ((wrap64 (((rd_T87 x30 x32).f1) + ((rd_T87 x30 x32).f2))) - 1))).bind fun t165 => (if t165 = true then (some (x32, true)) else (spec_SquareAt.l0 k x1 x2 x30 x31 (wrap64 (x32 + 1))))) else (spec_SquareAt.l0 k x1 x2 x30 x31 (wrap64 (x32 + 1))))) else (none)) else (none)) else (some (0, false))
end
def spec_SquareAt.f (k : Nat) (a0_0 : Int) (a0_1 : Int) (l0_2 : List (S87)) (a1 : Int) (a2 : Int) : Option (Int × Bool) := (spec_cuGood.f k a0_0 a0_1 l0_2).bind fun t159 => (if t159 = true then ((spec_l1In.f a1 0 (wrap64 (a0_0 - 1))).bind fun t160 => (if t160 = true then ((spec_l1In.f a2 0 (wrap64 (a0_1 - 1))).bind fun t161 => (spec_SquareAt.j0 k a1 a2 (!t161) a0_0 a0_1 l0_2)) else (spec_SquareAt.j0 k a1 a2 true a0_0 a0_1 l0_2))) else (spec_SquareAt.j0 k a1 a2 true a0_0 a0_1 l0_2))
theorem spec_SquareAt.mono_l : ∀ k, (∀ y0 y1 y2 y3 y4 y5, LeO (spec_SquareAt.j0 k y0 y1 y2 y3 y4 y5) (spec_SquareAt.j0 (k + 1) y0 y1 y2 y3 y4 y5)) ∧ (∀ y0 y1 y2 y3 y4, LeO (spec_SquareAt.l0 k y0 y1 y2 y3 y4) (spec_SquareAt.l0 (k + 1) y0 y1 y2 y3 y4))
 | 0 => ⟨fun _ _ _ _ _ _ r h => by simp [spec_SquareAt.j0] at h, fun _ _ _ _ _ r h => by simp [spec_SquareAt.l0] at h⟩
 | k + 1 => by
  obtain ⟨ih0, ih1⟩ := spec_SquareAt.mono_l k
  refine ⟨?_, ?_⟩
  ·
   intro y0 y1 y2 y3 y4 y5
   unfold spec_SquareAt.j0
   repeat' first
   | (with_reducible exact ih0 _ _ _ _ _ _)
   | (with_reducible exact ih1 _ _ _ _ _)
   | (with_reducible exact spec_cuGood.mono _ _ _ _)
   | (with_reducible exact LeO.refl _)
   | (with_reducible exact LeO.none _)
   | (with_reducible refine LeO.ite ?_ ?_)
   | (with_reducible refine LeO.bind ?_ (fun _ => ?_))
   | exact ih0 _ _ _ _ _ _
   | exact ih1 _ _ _ _ _
   | exact spec_cuGood.mono _ _ _ _
   | exact LeO.none _
   | refine LeO.ite ?_ ?_
   | refine LeO.bind ?_ (fun _ => ?_)
  ·
   intro y0 y1 y2 y3 y4
   unfold spec_SquareAt.l0
   repeat' first
   | (with_reducible exact ih0 _ _ _ _ _ _)
   | (with_reducible exact ih1 _ _ _ _ _)
   | (with_reducible exact spec_cuGood.mono _ _ _ _)
   | (with_reducible exact LeO.refl _)
   | (with_reducible exact LeO.none _)
   | (with_reducible refine LeO.ite ?_ ?_)
   | (with_reducible refine LeO.bind ?_ (fun _ => ?_))
   | exact ih0 _ _ _ _ _ _
   | exact ih1 _ _ _ _ _
   | exact spec_cuGood.mono _ _ _ _
   | exact LeO.none _
   | refine LeO.ite ?_ ?_
   | refine LeO.bind ?_ (fun _ => ?_)
theorem spec_SquareAt.mono : ∀ a0 a1 a2 a3 a4 k, LeO (spec_SquareAt.f k a0 a1 a2 a3 a4) (spec_SquareAt.f (k + 1) a0 a1 a2 a3 a4) := by
 intro a0 a1 a2 a3 a4 k
 obtain ⟨ih0, ih1⟩ := spec_SquareAt.mono_l k
 unfold spec_SquareAt.f
 repeat' first
   | (with_reducible exact ih0 _ _ _ _ _ _)
   | (with_reducible exact ih1 _ _ _ _ _)
   | (with_reducible exact spec_cuGood.mono _ _ _ _)
   | (with_reducible exact LeO.refl _)
   | (with_reducible exact LeO.none _)
   | (with_reducible refine LeO.ite ?_ ?_)
   | (with_reducible refine LeO.bind ?_ (fun _ => ?_))
   | exact ih0 _ _ _ _ _ _
   | exact ih1 _ _ _ _ _
   | exact spec_cuGood.mono _ _ _ _
   | exact LeO.none _
   | refine LeO.ite ?_ ?_
   | refine LeO.bind ?_ (fun _ => ?_)
set_option maxHeartbeats 8000000 in
set_option maxRecDepth 100000 in
theorem spec_SquareAt.calls (k : Nat) (a0_0 : Int) (a0_1 : Int) (A0_2 : Option Addr) (c0_2 : Nat) (l0_2 : List (S87)) (a1 : Int) (a2 : Int) (r1 : Int) (r2 : Bool) (w : World) (hr0_2 : Kd.C k87 w A0_2 l0_2.length l0_2) (hc0_2 : l0_2.length ≤ c0_2) (h : spec_SquareAt.f k a0_0 a0_1 l0_2 a1 a2 = some (r1, r2)) :
  Calls Try.prog 90 #[.agg #[.int .i64 a0_0, .int .i64 a0_1, .slice A0_2 l0_2.length c0_2], .int .i64 a1, .int .i64 a2] w fun e w' => e = .returned (.tuple #[.int .i64 r1, .bool r2]) ∧ Below w.heap.size w w' := by
 have hu31 := Try.underlying31
 have hu87 := Try.underlying87
 have HR0_2 := As_ hr0_2
 have HC0_2 := As_ hc0_2
 clear hr0_2 hc0_2
 have HB := As_ (Below.refl w.heap.size w)
 have H : ((spec_cuGood.f k a0_0 a0_1 l0_2).bind fun t159 => (if t159 = true then ((spec_l1In.f a1 0 (wrap64 (a0_0 - 1))).bind fun t160 => (if t160 = true then ((spec_l1In.f a2 0 (wrap64 (a0_1 - 1))).bind fun t161 => (spec_SquareAt.j0 k a1 a2 (!t161) a0_0 a0_1 l0_2)) else (spec_SquareAt.j0 k a1 a2 true a0_0 a0_1 l0_2))) else (spec_SquareAt.j0 k a1 a2 true a0_0 a0_1 l0_2))) = some (r1, r2) := h
 clear h
 have HC4 := As_ H
 clear H
 go_enter Try.func90, Try.ntmps90
 go_upto_region 1 with (first | ((with_reducible refine gate_dst (N := 3) rfl ?_); refine box_event rfl (N := 3) rfl (cs := #[.int .i64 a0_0, .int .i64 a0_1, .slice A0_2 l0_2.length c0_2]) (t := 31) ?hr ?_; (case hr => first | (go_simp; done) | (go_simp; rfl)); intro gb158 hg w5 hbox hb; have BK158 := As_ (hbox); have hW_ := bel_ w hb (by repeat (first | (with_reducible first | exact HB.out | apply ba_ | apply bn_ | apply bd_) | exact HB.out)); have GE158 := As_ (gesz hg hW_); replace HB := As_ (below_step hW_ hb); clear hW_ hb hbox hg))
 (try simp only [Act.put, sib_, sc0_, sc1_])
 go_cut [28] (fun v28 wc => ∃ (kq : Nat) (x28_3 : Bool), v28 = .bool x28_3 ∧ Aside0 (spec_SquareAt.j0 kq a1 a2 x28_3 a0_0 a0_1 l0_2 = some (r1, r2)) ∧ Aside0 (kq ≤ k) ∧ Aside0 (wc.heap[gb158]? = some (.cells #[.int .i64 a0_0, .int .i64 a0_1, (.slice A0_2 l0_2.length c0_2)] 31 (0, 0))) ∧ Aside0 (Below w.heap.size w wc))
 case first =>
  have H := HC4.out
  clear HC4
  replace H := Option.bind_eq_some_iff.mp H
  obtain ⟨t159, A60, H⟩ := H
  replace H : (if t159 = true then ((spec_l1In.f a1 0 (wrap64 (a0_0 - 1))).bind fun t160 => (if t160 = true then ((spec_l1In.f a2 0 (wrap64 (a0_1 - 1))).bind fun t161 => (spec_SquareAt.j0 k a1 a2 (!t161) a0_0 a0_1 l0_2)) else (spec_SquareAt.j0 k a1 a2 true a0_0 a0_1 l0_2))) else (spec_SquareAt.j0 k a1 a2 true a0_0 a0_1 l0_2)) = some (r1, r2) := H
  have A6 := As_ A60
  clear A60
  by_cases c7 : t159 = true
  ·
   subst c7
   have H1 : ((spec_l1In.f a1 0 (wrap64 (a0_0 - 1))).bind fun t160 => (if t160 = true then ((spec_l1In.f a2 0 (wrap64 (a0_1 - 1))).bind fun t161 => (spec_SquareAt.j0 k a1 a2 (!t161) a0_0 a0_1 l0_2)) else (spec_SquareAt.j0 k a1 a2 true a0_0 a0_1 l0_2))) = some (r1, r2) := by rw [if_pos rfl] at H; exact H
   clear H
   have H := H1
   clear H1
   replace H := Option.bind_eq_some_iff.mp H
   obtain ⟨t160, A80, H⟩ := H
   replace H : (if t160 = true then ((spec_l1In.f a2 0 (wrap64 (a0_1 - 1))).bind fun t161 => (spec_SquareAt.j0 k a1 a2 (!t161) a0_0 a0_1 l0_2)) else (spec_SquareAt.j0 k a1 a2 true a0_0 a0_1 l0_2)) = some (r1, r2) := H
   have A8 := As_ A80
   clear A80
   by_cases c9 : t160 = true
   ·
    subst c9
    have H1 : ((spec_l1In.f a2 0 (wrap64 (a0_1 - 1))).bind fun t161 => (spec_SquareAt.j0 k a1 a2 (!t161) a0_0 a0_1 l0_2)) = some (r1, r2) := by rw [if_pos rfl] at H; exact H
    clear H
    have H := H1
    clear H1
    replace H := Option.bind_eq_some_iff.mp H
    obtain ⟨t161, A100, H⟩ := H
    replace H : (spec_SquareAt.j0 k a1 a2 (!t161) a0_0 a0_1 l0_2) = some (r1, r2) := H
    have A10 := As_ A100
    clear A100
    have H' := As_ H
    clear H
    obtain ⟨hcz11_0, hcz11_1, hcz11_2⟩ := c3_ (w := w5) BK158.out
    obtain ⟨hfz11_0, hfz11_1, hfz11_2⟩ := z3_ BK158.out
    go_wp2_with (first | ((with_reducible refine gate_callee (f := 59) rfl ?_); refine goesL_ (some 11) rfl rfl Try.func59 (by kernel_rfl) rfl #[.agg #[.int .i64 a0_0, .int .i64 a0_1, .slice A0_2 l0_2.length c0_2]] rfl (by (try simp only [List.map_toArray, List.map_cons, List.map_nil]); first | done | rfl | (simp only [List.length_drop, List.length_take]; rfl)) ?_; (with_reducible refine (spec_cuGood.calls k a0_0 a0_1 _ _ l0_2 true _ ?side1 ?side2 A6.out).mono ?_); (case side1 => repeat (first | exact (Kd.C_below HR0_2.out HB.out) | (with_reducible refine Kd.C_alloc ?_ _) | (with_reducible refine Kd.C_drewN ?_ _) | (with_reducible refine Kd.C_drew ?_))); (case side2 => exact HC0_2.out); rintro e w12 ⟨rfl, hb⟩; refine ⟨_, rfl, ?_⟩; replace BK158 := As_ (blk_b hb BK158.out); replace HB := As_ (below_step (by repeat (first | (with_reducible first | exact HB.out | apply ba_ | apply bn_ | apply bd_ | refine bs_ ?_ GE158.out) | exact HB.out)) hb); (try clear hb); obtain ⟨hcz13_0, hcz13_1, hcz13_2⟩ := c3_ (w := w12) BK158.out; obtain ⟨hfz13_0, hfz13_1, hfz13_2⟩ := z3_ BK158.out) | (go_at_call 42; (with_reducible refine (spec_l1In.calls a1 0 (wrap64 (a0_0 - 1)) true _ A8.out).mono ?_); rintro e w' ⟨rfl, ⟨nd, rfl⟩⟩) | (go_at_call 42; (with_reducible refine (spec_l1In.calls a2 0 (wrap64 (a0_1 - 1)) t161 _ A10.out).mono ?_); rintro e w' ⟨rfl, ⟨nd, rfl⟩⟩))
    go_meet
    case rel => exact ⟨_, (!t161), (by first | rfl | (simp; done) | (simp [*]; done)), H', ⟨by first | omega | exact Nat.le_refl _⟩, ⟨by (with_reducible repeat (first | refine kn_ ?_ _ | refine kd_ ?_ | refine ka_ ?_ _)); exact BK158.out⟩, ⟨by repeat (first | (with_reducible first | exact HB.out | apply ba_ | apply bn_ | apply bd_ | refine bs_ ?_ GE158.out) | exact HB.out)⟩⟩
   ·
    replace c9 := Bool.eq_false_iff.mpr c9
    subst c9
    have H1 : (spec_SquareAt.j0 k a1 a2 true a0_0 a0_1 l0_2) = some (r1, r2) := by rw [if_neg (show ¬ (false = true) by decide)] at H; exact H
    clear H
    have H := H1
    clear H1
    have H' := As_ H
    clear H
    obtain ⟨hcz14_0, hcz14_1, hcz14_2⟩ := c3_ (w := w5) BK158.out
    obtain ⟨hfz14_0, hfz14_1, hfz14_2⟩ := z3_ BK158.out
    go_wp2_with (first | ((with_reducible refine gate_callee (f := 59) rfl ?_); refine goesL_ (some 11) rfl rfl Try.func59 (by kernel_rfl) rfl #[.agg #[.int .i64 a0_0, .int .i64 a0_1, .slice A0_2 l0_2.length c0_2]] rfl (by (try simp only [List.map_toArray, List.map_cons, List.map_nil]); first | done | rfl | (simp only [List.length_drop, List.length_take]; rfl)) ?_; (with_reducible refine (spec_cuGood.calls k a0_0 a0_1 _ _ l0_2 true _ ?side1 ?side2 A6.out).mono ?_); (case side1 => repeat (first | exact (Kd.C_below HR0_2.out HB.out) | (with_reducible refine Kd.C_alloc ?_ _) | (with_reducible refine Kd.C_drewN ?_ _) | (with_reducible refine Kd.C_drew ?_))); (case side2 => exact HC0_2.out); rintro e w15 ⟨rfl, hb⟩; refine ⟨_, rfl, ?_⟩; replace BK158 := As_ (blk_b hb BK158.out); replace HB := As_ (below_step (by repeat (first | (with_reducible first | exact HB.out | apply ba_ | apply bn_ | apply bd_ | refine bs_ ?_ GE158.out) | exact HB.out)) hb); (try clear hb); obtain ⟨hcz16_0, hcz16_1, hcz16_2⟩ := c3_ (w := w15) BK158.out; obtain ⟨hfz16_0, hfz16_1, hfz16_2⟩ := z3_ BK158.out) | (go_at_call 42; (with_reducible refine (spec_l1In.calls a1 0 (wrap64 (a0_0 - 1)) false _ A8.out).mono ?_); rintro e w' ⟨rfl, ⟨nd, rfl⟩⟩))
    go_meet
    case rel => exact ⟨_, (true), (by first | rfl | (simp; done) | (simp [*]; done)), H', ⟨by first | omega | exact Nat.le_refl _⟩, ⟨by (with_reducible repeat (first | refine kn_ ?_ _ | refine kd_ ?_ | refine ka_ ?_ _)); exact BK158.out⟩, ⟨by repeat (first | (with_reducible first | exact HB.out | apply ba_ | apply bn_ | apply bd_ | refine bs_ ?_ GE158.out) | exact HB.out)⟩⟩
  ·
   replace c7 := Bool.eq_false_iff.mpr c7
   subst c7
   have H1 : (spec_SquareAt.j0 k a1 a2 true a0_0 a0_1 l0_2) = some (r1, r2) := by rw [if_neg (show ¬ (false = true) by decide)] at H; exact H
   clear H
   have H := H1
   clear H1
   have H' := As_ H
   clear H
   obtain ⟨hcz17_0, hcz17_1, hcz17_2⟩ := c3_ (w := w5) BK158.out
   obtain ⟨hfz17_0, hfz17_1, hfz17_2⟩ := z3_ BK158.out
   go_wp2_with (first | ((with_reducible refine gate_callee (f := 59) rfl ?_); refine goesL_ (some 11) rfl rfl Try.func59 (by kernel_rfl) rfl #[.agg #[.int .i64 a0_0, .int .i64 a0_1, .slice A0_2 l0_2.length c0_2]] rfl (by (try simp only [List.map_toArray, List.map_cons, List.map_nil]); first | done | rfl | (simp only [List.length_drop, List.length_take]; rfl)) ?_; (with_reducible refine (spec_cuGood.calls k a0_0 a0_1 _ _ l0_2 false _ ?side1 ?side2 A6.out).mono ?_); (case side1 => repeat (first | exact (Kd.C_below HR0_2.out HB.out) | (with_reducible refine Kd.C_alloc ?_ _) | (with_reducible refine Kd.C_drewN ?_ _) | (with_reducible refine Kd.C_drew ?_))); (case side2 => exact HC0_2.out); rintro e w18 ⟨rfl, hb⟩; refine ⟨_, rfl, ?_⟩; replace BK158 := As_ (blk_b hb BK158.out); replace HB := As_ (below_step (by repeat (first | (with_reducible first | exact HB.out | apply ba_ | apply bn_ | apply bd_ | refine bs_ ?_ GE158.out) | exact HB.out)) hb); (try clear hb)))
   go_meet
   case rel => exact ⟨_, (true), (by first | rfl | (simp; done) | (simp [*]; done)), H', ⟨by first | omega | exact Nat.le_refl _⟩, ⟨by (with_reducible repeat (first | refine kn_ ?_ _ | refine kd_ ?_ | refine ka_ ?_ _)); exact BK158.out⟩, ⟨by repeat (first | (with_reducible first | exact HB.out | apply ba_ | apply bn_ | apply bd_ | refine bs_ ?_ GE158.out) | exact HB.out)⟩⟩
 case rest =>
  clear HC4
  try clear p2; try clear c5; try clear p6; try clear c7; try clear c9; try clear hcz11_0 hcz11_1 hcz11_2; try clear hcz13_0 hcz13_1 hcz13_2; try clear hcz14_0 hcz14_1 hcz14_2; try clear hcz16_0 hcz16_1 hcz16_2; try clear hcz17_0 hcz17_1 hcz17_2; try clear hfz11_0 hfz11_1 hfz11_2; try clear hfz13_0 hfz13_1 hfz13_2; try clear hfz14_0 hfz14_1 hfz14_2; try clear hfz16_0 hfz16_1 hfz16_2; try clear hfz17_0 hfz17_1 hfz17_2
  obtain ⟨kq, x28_3, rfl, HA, HJ3, BK158, HB⟩ := hcut
  rcases kq with _ | kj3
  · exact absurd HA.out (by simp [spec_SquareAt.j0])
  have H := HA.out
  clear HA
  simp only [spec_SquareAt.j0] at H
  by_cases c19 : x28_3 = true
  ·
   subst c19
   have H1 : (some (0, false)) = some (r1, r2) := by rw [if_pos rfl] at H; exact H
   clear H
   have H := H1
   clear H1
   simp only [Option.some.injEq, Prod.mk.injEq] at H
   obtain ⟨rfl, rfl⟩ := H
   go_wp2
   go_ret2
   exact ⟨by first | rfl | (simp <;> rfl) | (simp [*] <;> rfl), by repeat (first | (with_reducible first | exact HB.out | apply ba_ | apply bn_ | apply bd_ | refine bs_ ?_ GE158.out) | exact HB.out)⟩
  ·
   replace c19 := Bool.eq_false_iff.mpr c19
   subst c19
   have H1 : (spec_SquareAt.l0 kj3 a1 a2 l0_2 (l0_2.length : Int) 0) = some (r1, r2) := by rw [if_neg (show ¬ (false = true) by decide)] at H; exact H
   clear H
   have H := H1
   clear H1
   have H' := As_ H
   clear H
   obtain ⟨hcz20_0, hcz20_1, hcz20_2⟩ := c3_ (w := wc) BK158.out
   obtain ⟨hfz20_0, hfz20_1, hfz20_2⟩ := z3_ BK158.out
   go_wp2
   go_loopg [32] kj3 (fun kq v32 w' => ∃ (x32_2 : Int), v32 = .int .i64 x32_2 ∧ Aside0 (spec_SquareAt.l0 kq a1 a2 l0_2 (l0_2.length : Int) x32_2 = some (r1, r2)) ∧ Aside0 (kq ≤ kj3) ∧ Aside0 (w'.heap[gb158]? = some (.cells #[.int .i64 a0_0, .int .i64 a0_1, (.slice A0_2 l0_2.length c0_2)] 31 (0, 0))) ∧ Aside0 (Below w.heap.size w w'))
   case atStart => exact ⟨(0), (by first | rfl | (simp; done) | (simp [*]; done)), H', ⟨Nat.le_refl _⟩, ⟨by (with_reducible repeat (first | refine kn_ ?_ _ | refine kd_ ?_ | refine ka_ ?_ _)); exact BK158.out⟩, ⟨by repeat (first | (with_reducible first | exact HB.out | apply ba_ | apply bn_ | apply bd_ | refine bs_ ?_ GE158.out) | exact HB.out)⟩⟩
   case round =>
    clear H'
    try clear c1; try clear p2; try clear c5; try clear p6; try clear c7; try clear c9; try clear c19; try clear hcz11_0 hcz11_1 hcz11_2; try clear hcz13_0 hcz13_1 hcz13_2; try clear hcz14_0 hcz14_1 hcz14_2; try clear hcz16_0 hcz16_1 hcz16_2; try clear hcz17_0 hcz17_1 hcz17_2; try clear hcz20_0 hcz20_1 hcz20_2; try clear hfz11_0 hfz11_1 hfz11_2; try clear hfz13_0 hfz13_1 hfz13_2; try clear hfz14_0 hfz14_1 hfz14_2; try clear hfz16_0 hfz16_1 hfz16_2; try clear hfz17_0 hfz17_1 hfz17_2; try clear hfz20_0 hfz20_1 hfz20_2; try clear p2; try clear p6
    obtain ⟨x32_2, rfl, HA, HK2, BK158, HB⟩ := hrel
    rcases gk with _ | k2
    · exact absurd HA.out (by simp [spec_SquareAt.l0])
    have H := HA.out
    clear HA
    simp only [spec_SquareAt.l0] at H
    by_cases c21 : x32_2 < (l0_2.length : Int)
    ·
     rw [if_pos c21] at H
     have c21b0 : decide (x32_2 < (l0_2.length : Int)) = true := decide_eq_true c21
     clear c21
     by_cases c22 : 0 ≤ x32_2
     case neg => rw [if_neg c22] at H; exact absurd H (by simp)
     rw [if_pos c22] at H
     have c22b0 : decide (0 ≤ x32_2) = true := decide_eq_true c22
     clear c22
     by_cases c23 : x32_2 < (l0_2.length : Int)
     case neg => rw [if_neg c23] at H; exact absurd H (by simp)
     rw [if_pos c23] at H
     have c23b0 : decide (x32_2 < (l0_2.length : Int)) = true := decide_eq_true c23
     clear c23
     replace H := Option.bind_eq_some_iff.mp H
     obtain ⟨t164, A240, H⟩ := H
     replace H : (if t164 = true then ((spec_l1In.f a2 ((rd_T87 l0_2 x32_2).f1) (wrap64 ((wrap64 (((rd_T87 l0_2 x32_2).f1) + ((rd_T87 l0_2 x32_2).f2))) - 1))).bind fun t165 => (if t165 = true then (some (x32_2, true)) else (spec_SquareAt.l0 k2 a1 a2 l0_2 (l0_2.length : Int) (wrap64 (x32_2 + 1))))) else (spec_SquareAt.l0 k2 a1 a2 l0_2 (l0_2.length : Int) (wrap64 (x32_2 + 1)))) = some (r1, r2) := H
     have A24 := As_ A240
     clear A240
     by_cases c25 : t164 = true
     ·
      subst c25
      have H1 : ((spec_l1In.f a2 ((rd_T87 l0_2 x32_2).f1) (wrap64 ((wrap64 (((rd_T87 l0_2 x32_2).f1) + ((rd_T87 l0_2 x32_2).f2))) - 1))).bind fun t165 => (if t165 = true then (some (x32_2, true)) else (spec_SquareAt.l0 k2 a1 a2 l0_2 (l0_2.length : Int) (wrap64 (x32_2 + 1))))) = some (r1, r2) := by rw [if_pos rfl] at H; exact H
      clear H
      have H := H1
      clear H1
      replace H := Option.bind_eq_some_iff.mp H
      obtain ⟨t165, A260, H⟩ := H
      replace H : (if t165 = true then (some (x32_2, true)) else (spec_SquareAt.l0 k2 a1 a2 l0_2 (l0_2.length : Int) (wrap64 (x32_2 + 1)))) = some (r1, r2) := H
      have A26 := As_ A260
      clear A260
      by_cases c27 : t165 = true
      ·
       subst c27
       have H1 : (some (x32_2, true)) = some (r1, r2) := by rw [if_pos rfl] at H; exact H
       clear H
       have H := H1
       clear H1
       simp only [Option.some.injEq, Prod.mk.injEq] at H
       obtain ⟨rfl, rfl⟩ := H
       have p162 : 0 ≤ (x32_2 : Int) := of_decide_eq_true (by first | (with_reducible assumption) | assumption)
       have q162 : x32_2 < (l0_2.length : Int) := of_decide_eq_true (by first | (with_reducible assumption) | assumption)
       obtain ⟨ad162, e162, hx162_0, hx162_1, hx162_2⟩ := at_T87 HR0_2.out x32_2 p162 q162
       cases e162
       replace hx162_0 := pw_cell_below HB.out hx162_0
       replace hx162_1 := pw_cell_below HB.out hx162_1
       replace hx162_2 := pw_cell_below HB.out hx162_2
       replace p162 := eq_true p162
       replace q162 := eq_true q162
       go_wp2_with (first | ((with_reducible refine gate_dst (N := 9) rfl ?_); refine box_event rfl (N := 9) rfl (cs := #[.int .i64 0, .int .i64 0, .int .i64 0]) (t := 87) ?hr ?_; (case hr => first | (go_simp; done) | (go_simp; rfl)); intro gb163 hg w28 hbox hb; have BK163 := As_ (hbox); have hW_ := bel_ w hb (by repeat (first | (with_reducible first | exact HB.out | apply ba_ | apply bn_ | apply bd_ | refine bs_ ?_ GE158.out) | exact HB.out)); have GE163 := As_ (gesz hg hW_); have NB158_163 := As_ (ne_lt hg BK158.out); have NB163_158 := As_ (ne_gt hg BK158.out); replace BK158 := As_ (blk_b hb BK158.out); replace HB := As_ (below_step hW_ hb); clear hW_ hb hbox hg; have hnb29 := NB163_158.out; have hnc29 := NB158_163.out; obtain ⟨hcz30_0, hcz30_1, hcz30_2⟩ := c3_ (w := w28) BK163.out; obtain ⟨hfz30_0, hfz30_1, hfz30_2⟩ := z3_ BK163.out) | ((with_reducible refine gate_callee (f := 42) rfl ?_); refine goesL_ (some 46) rfl rfl Try.func42 (by kernel_rfl) rfl #[.int .i64 a1, .int .i64 ((rd_T87 l0_2 x32_2).f0), .int .i64 (wrap64 ((wrap64 (((rd_T87 l0_2 x32_2).f0) + ((rd_T87 l0_2 x32_2).f2))) - 1))] rfl (by (try simp only [List.map_toArray, List.map_cons, List.map_nil]); first | done | rfl | (simp only [List.length_drop, List.length_take]; rfl)) ?_; (with_reducible refine (spec_l1In.calls a1 ((rd_T87 l0_2 x32_2).f0) (wrap64 ((wrap64 (((rd_T87 l0_2 x32_2).f0) + ((rd_T87 l0_2 x32_2).f2))) - 1)) true _ A24.out).mono ?_); rintro e w' ⟨rfl, ⟨nd, rfl⟩⟩; refine ⟨_, rfl, ?_⟩) | (go_at_call 42; (with_reducible refine (spec_l1In.calls a2 ((rd_T87 l0_2 x32_2).f1) (wrap64 ((wrap64 (((rd_T87 l0_2 x32_2).f1) + ((rd_T87 l0_2 x32_2).f2))) - 1)) true _ A26.out).mono ?_); rintro e w' ⟨rfl, ⟨nd, rfl⟩⟩))
       go_ret2
       exact ⟨by first | rfl | (simp <;> rfl) | (simp [*] <;> rfl), by repeat (first | (with_reducible first | exact HB.out | apply ba_ | apply bn_ | apply bd_ | refine below_setA ?_ (by assumption)) | exact HB.out)⟩
      ·
       replace c27 := Bool.eq_false_iff.mpr c27
       subst c27
       have H1 : (spec_SquareAt.l0 k2 a1 a2 l0_2 (l0_2.length : Int) (wrap64 (x32_2 + 1))) = some (r1, r2) := by rw [if_neg (show ¬ (false = true) by decide)] at H; exact H
       clear H
       have H := H1
       clear H1
       have H' := As_ H
       clear H
       have p162 : 0 ≤ (x32_2 : Int) := of_decide_eq_true (by first | (with_reducible assumption) | assumption)
       have q162 : x32_2 < (l0_2.length : Int) := of_decide_eq_true (by first | (with_reducible assumption) | assumption)
       obtain ⟨ad162, e162, hx162_0, hx162_1, hx162_2⟩ := at_T87 HR0_2.out x32_2 p162 q162
       cases e162
       replace hx162_0 := pw_cell_below HB.out hx162_0
       replace hx162_1 := pw_cell_below HB.out hx162_1
       replace hx162_2 := pw_cell_below HB.out hx162_2
       replace p162 := eq_true p162
       replace q162 := eq_true q162
       go_wp2_with (first | ((with_reducible refine gate_dst (N := 9) rfl ?_); refine box_event rfl (N := 9) rfl (cs := #[.int .i64 0, .int .i64 0, .int .i64 0]) (t := 87) ?hr ?_; (case hr => first | (go_simp; done) | (go_simp; rfl)); intro gb163 hg w31 hbox hb; have BK163 := As_ (hbox); have hW_ := bel_ w hb (by repeat (first | (with_reducible first | exact HB.out | apply ba_ | apply bn_ | apply bd_ | refine bs_ ?_ GE158.out) | exact HB.out)); have GE163 := As_ (gesz hg hW_); have NB158_163 := As_ (ne_lt hg BK158.out); have NB163_158 := As_ (ne_gt hg BK158.out); replace BK158 := As_ (blk_b hb BK158.out); replace HB := As_ (below_step hW_ hb); clear hW_ hb hbox hg; have hnb32 := NB163_158.out; have hnc32 := NB158_163.out; obtain ⟨hcz33_0, hcz33_1, hcz33_2⟩ := c3_ (w := w31) BK163.out; obtain ⟨hfz33_0, hfz33_1, hfz33_2⟩ := z3_ BK163.out) | ((with_reducible refine gate_callee (f := 42) rfl ?_); refine goesL_ (some 46) rfl rfl Try.func42 (by kernel_rfl) rfl #[.int .i64 a1, .int .i64 ((rd_T87 l0_2 x32_2).f0), .int .i64 (wrap64 ((wrap64 (((rd_T87 l0_2 x32_2).f0) + ((rd_T87 l0_2 x32_2).f2))) - 1))] rfl (by (try simp only [List.map_toArray, List.map_cons, List.map_nil]); first | done | rfl | (simp only [List.length_drop, List.length_take]; rfl)) ?_; (with_reducible refine (spec_l1In.calls a1 ((rd_T87 l0_2 x32_2).f0) (wrap64 ((wrap64 (((rd_T87 l0_2 x32_2).f0) + ((rd_T87 l0_2 x32_2).f2))) - 1)) true _ A24.out).mono ?_); rintro e w' ⟨rfl, ⟨nd, rfl⟩⟩; refine ⟨_, rfl, ?_⟩) | (go_at_call 42; (with_reducible refine (spec_l1In.calls a2 ((rd_T87 l0_2 x32_2).f1) (wrap64 ((wrap64 (((rd_T87 l0_2 x32_2).f1) + ((rd_T87 l0_2 x32_2).f2))) - 1)) false _ A26.out).mono ?_); rintro e w' ⟨rfl, ⟨nd, rfl⟩⟩))
       go_roundg k2
       case measure => have := HJ3.out; have := HK2.out; omega
       case rel => exact ⟨(wrap64 (x32_2 + 1)), (by first | rfl | (simp; done) | (simp [*]; done)), H', ⟨by have := HJ3.out; have := HK2.out; omega⟩, ⟨by (with_reducible repeat (first | refine kn_ ?_ _ | refine kd_ ?_ | refine ka_ ?_ _)); refine blk_far ?_ NB158_163.out _; refine blk_far ?_ NB158_163.out _; refine blk_far ?_ NB158_163.out _; (with_reducible repeat (first | refine kn_ ?_ _ | refine kd_ ?_ | refine ka_ ?_ _)); exact BK158.out⟩, ⟨by repeat (first | (with_reducible first | exact HB.out | apply ba_ | apply bn_ | apply bd_ | refine below_setA ?_ (by assumption)) | exact HB.out)⟩⟩
     ·
      replace c25 := Bool.eq_false_iff.mpr c25
      subst c25
      have H1 : (spec_SquareAt.l0 k2 a1 a2 l0_2 (l0_2.length : Int) (wrap64 (x32_2 + 1))) = some (r1, r2) := by rw [if_neg (show ¬ (false = true) by decide)] at H; exact H
      clear H
      have H := H1
      clear H1
      have H' := As_ H
      clear H
      have p162 : 0 ≤ (x32_2 : Int) := of_decide_eq_true (by first | (with_reducible assumption) | assumption)
      have q162 : x32_2 < (l0_2.length : Int) := of_decide_eq_true (by first | (with_reducible assumption) | assumption)
      obtain ⟨ad162, e162, hx162_0, hx162_1, hx162_2⟩ := at_T87 HR0_2.out x32_2 p162 q162
      cases e162
      replace hx162_0 := pw_cell_below HB.out hx162_0
      replace hx162_1 := pw_cell_below HB.out hx162_1
      replace hx162_2 := pw_cell_below HB.out hx162_2
      replace p162 := eq_true p162
      replace q162 := eq_true q162
      go_wp2_with (first | ((with_reducible refine gate_dst (N := 9) rfl ?_); refine box_event rfl (N := 9) rfl (cs := #[.int .i64 0, .int .i64 0, .int .i64 0]) (t := 87) ?hr ?_; (case hr => first | (go_simp; done) | (go_simp; rfl)); intro gb163 hg w34 hbox hb; have BK163 := As_ (hbox); have hW_ := bel_ w hb (by repeat (first | (with_reducible first | exact HB.out | apply ba_ | apply bn_ | apply bd_ | refine bs_ ?_ GE158.out) | exact HB.out)); have GE163 := As_ (gesz hg hW_); have NB158_163 := As_ (ne_lt hg BK158.out); have NB163_158 := As_ (ne_gt hg BK158.out); replace BK158 := As_ (blk_b hb BK158.out); replace HB := As_ (below_step hW_ hb); clear hW_ hb hbox hg; have hnb35 := NB163_158.out; have hnc35 := NB158_163.out; obtain ⟨hcz36_0, hcz36_1, hcz36_2⟩ := c3_ (w := w34) BK163.out; obtain ⟨hfz36_0, hfz36_1, hfz36_2⟩ := z3_ BK163.out) | ((with_reducible refine gate_callee (f := 42) rfl ?_); refine goesL_ (some 46) rfl rfl Try.func42 (by kernel_rfl) rfl #[.int .i64 a1, .int .i64 ((rd_T87 l0_2 x32_2).f0), .int .i64 (wrap64 ((wrap64 (((rd_T87 l0_2 x32_2).f0) + ((rd_T87 l0_2 x32_2).f2))) - 1))] rfl (by (try simp only [List.map_toArray, List.map_cons, List.map_nil]); first | done | rfl | (simp only [List.length_drop, List.length_take]; rfl)) ?_; (with_reducible refine (spec_l1In.calls a1 ((rd_T87 l0_2 x32_2).f0) (wrap64 ((wrap64 (((rd_T87 l0_2 x32_2).f0) + ((rd_T87 l0_2 x32_2).f2))) - 1)) false _ A24.out).mono ?_); rintro e w' ⟨rfl, ⟨nd, rfl⟩⟩; refine ⟨_, rfl, ?_⟩))
      go_roundg k2
      case measure => have := HJ3.out; have := HK2.out; omega
      case rel => exact ⟨(wrap64 (x32_2 + 1)), (by first | rfl | (simp; done) | (simp [*]; done)), H', ⟨by have := HJ3.out; have := HK2.out; omega⟩, ⟨by (with_reducible repeat (first | refine kn_ ?_ _ | refine kd_ ?_ | refine ka_ ?_ _)); refine blk_far ?_ NB158_163.out _; refine blk_far ?_ NB158_163.out _; refine blk_far ?_ NB158_163.out _; (with_reducible repeat (first | refine kn_ ?_ _ | refine kd_ ?_ | refine ka_ ?_ _)); exact BK158.out⟩, ⟨by repeat (first | (with_reducible first | exact HB.out | apply ba_ | apply bn_ | apply bd_ | refine below_setA ?_ (by assumption)) | exact HB.out)⟩⟩
    ·
     rw [if_neg c21] at H
     have c21b0 : decide (x32_2 < (l0_2.length : Int)) = false := decide_eq_false c21
     clear c21
     simp only [Option.some.injEq, Prod.mk.injEq] at H
     obtain ⟨rfl, rfl⟩ := H
     go_wp2
     go_ret2
     exact ⟨by first | rfl | (simp <;> rfl) | (simp [*] <;> rfl), by repeat (first | (with_reducible first | exact HB.out | apply ba_ | apply bn_ | apply bd_ | refine bs_ ?_ GE158.out) | exact HB.out)⟩

end Go.Proofs.Ytipiaiolhhnnhaa.PFnExactMakePuzzle
