-- Written by a program of this session (wip/tools/pg.py) out of the translation.
import Derived.Test.YtipiaiolhhnnhaaPFnExactMakePuzzlex0
import Derived.Test.YtipiaiolhhnnhaaPFnExactMakePuzzlex2
import Derived.Test.YtipiaiolhhnnhaaPFnExactMakePuzzlex4
import Derived.Test.YtipiaiolhhnnhaaPFnExactMakePuzzlex9
namespace Go.Proofs.Ytipiaiolhhnnhaa.PFnExactMakePuzzle
open Go.RowKit Go.Proofs.YtipiaiolhhnnhaaW.PrintWords Go.Proofs.YtipiaiolhhnnhaaW.PrintLast Go.Proofs.YtipiaiolhhnnhaaW.PrintMore Go.Proofs.YtipiaiolhhnnhaaH
attribute [local go_sem] max2_int min2_int max_two min_two max_three min_three max_four min_four   -- for this text's walks alone
set_option linter.unusedVariables false
set_option linter.unusedSimpArgs false

/-! ### spec_MakePuzzle: function 19 -/
mutual
def spec_MakePuzzle.j0 : Nat → Int → Int → Bool → Int → Int → List (S87) → Option (Int × Int × (List (S42)) × Bool)
 | 0, _, _, _, _, _, _ => none
 | k + 1, x1, x2, x24, x261000, x261001, x261002 => if x24 = true then (some (0, 0, ([] : List (S42)), false)) else (spec_MakePuzzle.l0 k x1 x2 x261000 x261001 x261002 x261000 x261001 ([] : List (S42)))
def spec_MakePuzzle.l0 : Nat → Int → Int → Int → Int → List (S87) → Int → Int → List (S42) → Option (Int × Int × (List (S42)) × Bool)
 | 0, _, _, _, _, _, _, _, _ => none
 | k + 1, x1, x9, x261000, x261001, x261002, x266000, x266001, x266002 => if x1 > 0 then ((spec_pzNext.f x9).bind fun t266 => ((spec_pzAlone.f (Int.tmod t266 6)).bind fun t267 => (if t267 = true then ((spec_pzOf.f k (Int.tmod t266 6) 0 x261000 x261001 x261002).bind fun bt268 => (if x266002.length < 5864062014805 then (spec_MakePuzzle.l0 k (wrap64 (x1 - 1)) t266 x261000 x261001 x261002 x266000 x266001 (x266002 ++ [(⟨bt268.1, bt268.2.1, bt268.2.2⟩ : S42)])) else (none))) else ((spec_pzNext.f t266).bind fun t274 => (if (Int.tmod t266 6) = 1 then ((spec_pzOf.f k (Int.tmod t266 6) (wrap64 ((Int.tmod t274 3) + 1)) x261000 x261001 x261002).bind fun bt275 => (if x266002.length < 5864062014805 then (spec_MakePuzzle.l0 k (wrap64 (x1 - 1)) t274 x261000 x261001 x261002 x266000 x266001 (x266002 ++ [(⟨bt275.1, bt275.2.1, bt275.2.2⟩ : S42)])) else (none))) else (if (Int.tmod t266 6) = 2 then (if (wrap64 (x261000 * x261001)) = 0 then (none) else ((spec_pzOf.f k (Int.tmod t266 6) (Int.tmod t274 (wrap64 (x261000 * x261001))) x261000 x261001 x261002).bind fun bt281 => (if x266002.length < 5864062014805 then (spec_MakePuzzle.l0 k (wrap64 (x1 - 1)) t274 x261000 x261001 x261002 x266000 x266001 (x266002 ++ [(⟨bt281.1, bt281.2.1, bt281.2.2⟩ : S42)])) else (none)))) else ((spec_pzOf.f k (Int.tmod t266 6) (Int.tmod t274 4) x261000 x261001 x261002).bind fun bt287 => (if x266002.length < 5864062014805 then (spec_MakePuzzle.l0 k (wrap64 (x1 - 1)) t274 x261000 x261001 x261002 x266000 x266001 (x266002 ++ [(⟨bt287.1, bt287.2.1, bt287.2.2⟩ : S42)])) else (none))))))))) else (some (x266000, x266001, x266002, true))
end
def spec_MakePuzzle.f (k : Nat) (a0_0 : Int) (a0_1 : Int) (l0_2 : List (S87)) (a1 : Int) (a2 : Int) : Option (Int × Int × (List (S42)) × Bool) := (spec_pzHidden.f k a0_0 a0_1 l0_2).bind fun t262 => (if t262 = true then ((spec_l1In.f a1 0 6).bind fun t263 => (if t263 = true then ((spec_l1In.f a2 0 9999).bind fun t264 => (spec_MakePuzzle.j0 k a1 a2 (!t264) a0_0 a0_1 l0_2)) else (spec_MakePuzzle.j0 k a1 a2 true a0_0 a0_1 l0_2))) else (spec_MakePuzzle.j0 k a1 a2 true a0_0 a0_1 l0_2))
theorem spec_MakePuzzle.mono_l : ∀ k, (∀ y0 y1 y2 y3 y4 y5, LeO (spec_MakePuzzle.j0 k y0 y1 y2 y3 y4 y5) (spec_MakePuzzle.j0 (k + 1) y0 y1 y2 y3 y4 y5)) ∧ (∀ y0 y1 y2 y3 y4 y5 y6 y7, LeO (spec_MakePuzzle.l0 k y0 y1 y2 y3 y4 y5 y6 y7) (spec_MakePuzzle.l0 (k + 1) y0 y1 y2 y3 y4 y5 y6 y7))
 | 0 => ⟨fun _ _ _ _ _ _ r h => by simp [spec_MakePuzzle.j0] at h, fun _ _ _ _ _ _ _ _ r h => by simp [spec_MakePuzzle.l0] at h⟩
 | k + 1 => by
  obtain ⟨ih0, ih1⟩ := spec_MakePuzzle.mono_l k
  refine ⟨?_, ?_⟩
  ·
   intro y0 y1 y2 y3 y4 y5
   unfold spec_MakePuzzle.j0
   repeat' first
   | (with_reducible exact ih0 _ _ _ _ _ _)
   | (with_reducible exact ih1 _ _ _ _ _ _ _ _)
   | (with_reducible exact spec_pzHidden.mono _ _ _ _)
   | (with_reducible exact spec_pzOf.mono _ _ _ _ _ _)
   | (with_reducible exact LeO.refl _)
   | (with_reducible exact LeO.none _)
   | (with_reducible refine LeO.ite ?_ ?_)
   | (with_reducible refine LeO.bind ?_ (fun _ => ?_))
   | exact ih0 _ _ _ _ _ _
   | exact ih1 _ _ _ _ _ _ _ _
   | exact spec_pzHidden.mono _ _ _ _
   | exact spec_pzOf.mono _ _ _ _ _ _
   | exact LeO.none _
   | refine LeO.ite ?_ ?_
   | refine LeO.bind ?_ (fun _ => ?_)
  ·
   intro y0 y1 y2 y3 y4 y5 y6 y7
   unfold spec_MakePuzzle.l0
   repeat' first
   | (with_reducible exact ih0 _ _ _ _ _ _)
   | (with_reducible exact ih1 _ _ _ _ _ _ _ _)
   | (with_reducible exact spec_pzHidden.mono _ _ _ _)
   | (with_reducible exact spec_pzOf.mono _ _ _ _ _ _)
   | (with_reducible exact LeO.refl _)
   | (with_reducible exact LeO.none _)
   | (with_reducible refine LeO.ite ?_ ?_)
   | (with_reducible refine LeO.bind ?_ (fun _ => ?_))
   | exact ih0 _ _ _ _ _ _
   | exact ih1 _ _ _ _ _ _ _ _
   | exact spec_pzHidden.mono _ _ _ _
   | exact spec_pzOf.mono _ _ _ _ _ _
   | exact LeO.none _
   | refine LeO.ite ?_ ?_
   | refine LeO.bind ?_ (fun _ => ?_)
theorem spec_MakePuzzle.mono : ∀ a0 a1 a2 a3 a4 k, LeO (spec_MakePuzzle.f k a0 a1 a2 a3 a4) (spec_MakePuzzle.f (k + 1) a0 a1 a2 a3 a4) := by
 intro a0 a1 a2 a3 a4 k
 obtain ⟨ih0, ih1⟩ := spec_MakePuzzle.mono_l k
 unfold spec_MakePuzzle.f
 repeat' first
   | (with_reducible exact ih0 _ _ _ _ _ _)
   | (with_reducible exact ih1 _ _ _ _ _ _ _ _)
   | (with_reducible exact spec_pzHidden.mono _ _ _ _)
   | (with_reducible exact spec_pzOf.mono _ _ _ _ _ _)
   | (with_reducible exact LeO.refl _)
   | (with_reducible exact LeO.none _)
   | (with_reducible refine LeO.ite ?_ ?_)
   | (with_reducible refine LeO.bind ?_ (fun _ => ?_))
   | exact ih0 _ _ _ _ _ _
   | exact ih1 _ _ _ _ _ _ _ _
   | exact spec_pzHidden.mono _ _ _ _
   | exact spec_pzOf.mono _ _ _ _ _ _
   | exact LeO.none _
   | refine LeO.ite ?_ ?_
   | refine LeO.bind ?_ (fun _ => ?_)
def spec_MakePuzzle.T17 : Bool × List (List Nat × List Nat) := (true, [([], []), ([0], [0]), ([], []), ([], []), ([], []), ([2, 3, 4], [2, 3, 4]), ([5], [5]), ([1, 6, 5], [1, 6]), ([0, 1, 2, 3, 4, 5, 6, 7], []), ([8, 7, 7, 0, 1, 2, 3, 4, 5, 6, 7], [7, 8])])
def spec_MakePuzzle.B17 : List Nat := [0, 1, 0, 0, 0, 28, 60, 127, 255, 511]
theorem spec_MakePuzzle.tab17 : rtab .any (opsOf Try.f19 17) = spec_MakePuzzle.T17 := by kernel_rfl
theorem spec_MakePuzzle.bits17 : waitsOk spec_MakePuzzle.T17.2 spec_MakePuzzle.B17 = true := by kernel_rfl
set_option maxHeartbeats 8000000 in
set_option maxRecDepth 100000 in
theorem spec_MakePuzzle.calls (k : Nat) (a0_0 : Int) (a0_1 : Int) (A0_2 : Option Addr) (c0_2 : Nat) (l0_2 : List (S87)) (a1 : Int) (a2 : Int) (r1 : Int) (r2 : Int) (r3 : List (S42)) (r4 : Bool) (w : World) (hr0_2 : Kd.C k87 w A0_2 l0_2.length l0_2) (hc0_2 : l0_2.length ≤ c0_2) (h : spec_MakePuzzle.f k a0_0 a0_1 l0_2 a1 a2 = some (r1, r2, r3, r4)) :
  Calls Try.prog 19 #[.agg #[.int .i64 a0_0, .int .i64 a0_1, .slice A0_2 l0_2.length c0_2], .int .i64 a1, .int .i64 a2] w fun e w' => ∃ v2_ : Value, e = .returned (.tuple #[.agg #[.int .i64 r1, .int .i64 r2, v2_], .bool r4]) ∧ Kd.R k42 42 w' w.heap.size (fun _ => True) v2_ r3 ∧ Below w.heap.size w w' := by
 have hu31 := Try.underlying31
 have hu47 := Try.underlying47
 have HR0_2 := As_ hr0_2
 have HC0_2 := As_ hc0_2
 clear hr0_2 hc0_2
 have HB := As_ (Below.refl w.heap.size w)
 have H : ((spec_pzHidden.f k a0_0 a0_1 l0_2).bind fun t262 => (if t262 = true then ((spec_l1In.f a1 0 6).bind fun t263 => (if t263 = true then ((spec_l1In.f a2 0 9999).bind fun t264 => (spec_MakePuzzle.j0 k a1 a2 (!t264) a0_0 a0_1 l0_2)) else (spec_MakePuzzle.j0 k a1 a2 true a0_0 a0_1 l0_2))) else (spec_MakePuzzle.j0 k a1 a2 true a0_0 a0_1 l0_2))) = some (r1, r2, r3, r4) := h
 clear h
 have HC4 := As_ H
 clear H
 go_enter Try.func19, Try.ntmps19
 go_upto_region 1 with (first | ((with_reducible refine gate_dst (N := 3) rfl ?_); refine box_event rfl (N := 3) rfl (cs := #[.int .i64 a0_0, .int .i64 a0_1, .slice A0_2 l0_2.length c0_2]) (t := 31) ?hr ?_; (case hr => first | (go_simp; done) | (go_simp; rfl)); intro gb260 hg w5 hbox hb; have BK260 := As_ (hbox); have hW_ := bel_ w hb (by repeat (first | (with_reducible first | exact HB.out | apply ba_ | apply bn_ | apply bd_) | exact HB.out)); have GE260 := As_ (gesz hg hW_); replace HB := As_ (below_step hW_ hb); clear hW_ hb hbox hg) | ((with_reducible refine gate_dst (N := 6) rfl ?_); refine box_event rfl (N := 6) rfl (cs := #[.int .i64 0, .int .i64 0, .slice none 0 0]) (t := 47) ?hr ?_; (case hr => first | (go_simp; done) | (go_simp; rfl)); intro gb261 hg w6 hbox hb; have BK261 := As_ (hbox); have hW_ := bel_ w hb (by repeat (first | (with_reducible first | exact HB.out | apply ba_ | apply bn_ | apply bd_ | refine bs_ ?_ GE260.out) | exact HB.out)); have GE261 := As_ (gesz hg hW_); have NB260_261 := As_ (ne_lt hg BK260.out); have NB261_260 := As_ (ne_gt hg BK260.out); replace BK260 := As_ (blk_b hb BK260.out); replace HB := As_ (below_step hW_ hb); clear hW_ hb hbox hg))
 (try simp only [Act.put, sib_, sc0_, sc1_])
 go_cut [24] (fun v24 wc => ∃ (kq : Nat) (x24_3 : Bool), v24 = .bool x24_3 ∧ Aside0 (spec_MakePuzzle.j0 kq a1 a2 x24_3 a0_0 a0_1 l0_2 = some (r1, r2, r3, r4)) ∧ Aside0 (kq ≤ k) ∧ Aside0 (wc.heap[gb260]? = some (.cells #[.int .i64 a0_0, .int .i64 a0_1, (.slice A0_2 l0_2.length c0_2)] 31 (0, 0))) ∧ Aside0 (wc.heap[gb261]? = some (.cells #[.int .i64 0, .int .i64 0, (.slice none 0 0)] 47 (0, 0))) ∧ Aside0 (Below w.heap.size w wc))
 case first =>
  have H := HC4.out
  clear HC4
  replace H := Option.bind_eq_some_iff.mp H
  obtain ⟨t262, A70, H⟩ := H
  replace H : (if t262 = true then ((spec_l1In.f a1 0 6).bind fun t263 => (if t263 = true then ((spec_l1In.f a2 0 9999).bind fun t264 => (spec_MakePuzzle.j0 k a1 a2 (!t264) a0_0 a0_1 l0_2)) else (spec_MakePuzzle.j0 k a1 a2 true a0_0 a0_1 l0_2))) else (spec_MakePuzzle.j0 k a1 a2 true a0_0 a0_1 l0_2)) = some (r1, r2, r3, r4) := H
  have A7 := As_ A70
  clear A70
  by_cases c8 : t262 = true
  ·
   subst c8
   have H1 : ((spec_l1In.f a1 0 6).bind fun t263 => (if t263 = true then ((spec_l1In.f a2 0 9999).bind fun t264 => (spec_MakePuzzle.j0 k a1 a2 (!t264) a0_0 a0_1 l0_2)) else (spec_MakePuzzle.j0 k a1 a2 true a0_0 a0_1 l0_2))) = some (r1, r2, r3, r4) := by rw [if_pos rfl] at H; exact H
   clear H
   have H := H1
   clear H1
   replace H := Option.bind_eq_some_iff.mp H
   obtain ⟨t263, A90, H⟩ := H
   replace H : (if t263 = true then ((spec_l1In.f a2 0 9999).bind fun t264 => (spec_MakePuzzle.j0 k a1 a2 (!t264) a0_0 a0_1 l0_2)) else (spec_MakePuzzle.j0 k a1 a2 true a0_0 a0_1 l0_2)) = some (r1, r2, r3, r4) := H
   have A9 := As_ A90
   clear A90
   by_cases c10 : t263 = true
   ·
    subst c10
    have H1 : ((spec_l1In.f a2 0 9999).bind fun t264 => (spec_MakePuzzle.j0 k a1 a2 (!t264) a0_0 a0_1 l0_2)) = some (r1, r2, r3, r4) := by rw [if_pos rfl] at H; exact H
    clear H
    have H := H1
    clear H1
    replace H := Option.bind_eq_some_iff.mp H
    obtain ⟨t264, A110, H⟩ := H
    replace H : (spec_MakePuzzle.j0 k a1 a2 (!t264) a0_0 a0_1 l0_2) = some (r1, r2, r3, r4) := H
    have A11 := As_ A110
    clear A110
    have H' := As_ H
    clear H
    have hnb12 := NB260_261.out
    have hnc12 := NB261_260.out
    obtain ⟨hcz13_0, hcz13_1, hcz13_2⟩ := c3_ (w := w6) BK260.out
    obtain ⟨hfz13_0, hfz13_1, hfz13_2⟩ := z3_ BK260.out
    go_wp2_with (first | ((with_reducible refine gate_callee (f := 36) rfl ?_); refine goesL_ (some 13) rfl rfl Try.func36 (by kernel_rfl) rfl #[.agg #[.int .i64 a0_0, .int .i64 a0_1, .slice A0_2 l0_2.length c0_2]] rfl (by (try simp only [List.map_toArray, List.map_cons, List.map_nil]); first | done | rfl | (simp only [List.length_drop, List.length_take]; rfl)) ?_; (with_reducible refine (spec_pzHidden.calls k a0_0 a0_1 _ _ l0_2 true _ ?side1 ?side2 A7.out).mono ?_); (case side1 => repeat (first | exact (Kd.C_below HR0_2.out HB.out) | (with_reducible refine Kd.C_alloc ?_ _) | (with_reducible refine Kd.C_drewN ?_ _) | (with_reducible refine Kd.C_drew ?_))); (case side2 => exact HC0_2.out); rintro e w14 ⟨rfl, hb⟩; refine ⟨_, rfl, ?_⟩; replace BK260 := As_ (blk_b hb BK260.out); replace BK261 := As_ (blk_b hb BK261.out); replace HB := As_ (below_step (by repeat (first | (with_reducible first | exact HB.out | apply ba_ | apply bn_ | apply bd_ | refine below_setA ?_ (by assumption)) | exact HB.out)) hb); (try clear hb)) | (go_at_call 42; (with_reducible refine (spec_l1In.calls a1 0 6 true _ A9.out).mono ?_); rintro e w' ⟨rfl, ⟨nd, rfl⟩⟩) | (go_at_call 42; (with_reducible refine (spec_l1In.calls a2 0 9999 t264 _ A11.out).mono ?_); rintro e w' ⟨rfl, ⟨nd, rfl⟩⟩))
    go_meet
    case rel => exact ⟨_, (!t264), (by first | rfl | (simp; done) | (simp [*]; done)), H', ⟨by first | omega | exact Nat.le_refl _⟩, ⟨by (with_reducible repeat (first | refine kn_ ?_ _ | refine kd_ ?_ | refine ka_ ?_ _)); exact BK260.out⟩, ⟨by (with_reducible repeat (first | refine kn_ ?_ _ | refine kd_ ?_ | refine ka_ ?_ _)); exact BK261.out⟩, ⟨by repeat (first | (with_reducible first | exact HB.out | apply ba_ | apply bn_ | apply bd_ | refine below_setA ?_ (by assumption)) | exact HB.out)⟩⟩
   ·
    replace c10 := Bool.eq_false_iff.mpr c10
    subst c10
    have H1 : (spec_MakePuzzle.j0 k a1 a2 true a0_0 a0_1 l0_2) = some (r1, r2, r3, r4) := by rw [if_neg (show ¬ (false = true) by decide)] at H; exact H
    clear H
    have H := H1
    clear H1
    have H' := As_ H
    clear H
    have hnb15 := NB260_261.out
    have hnc15 := NB261_260.out
    obtain ⟨hcz16_0, hcz16_1, hcz16_2⟩ := c3_ (w := w6) BK260.out
    obtain ⟨hfz16_0, hfz16_1, hfz16_2⟩ := z3_ BK260.out
    go_wp2_with (first | ((with_reducible refine gate_callee (f := 36) rfl ?_); refine goesL_ (some 13) rfl rfl Try.func36 (by kernel_rfl) rfl #[.agg #[.int .i64 a0_0, .int .i64 a0_1, .slice A0_2 l0_2.length c0_2]] rfl (by (try simp only [List.map_toArray, List.map_cons, List.map_nil]); first | done | rfl | (simp only [List.length_drop, List.length_take]; rfl)) ?_; (with_reducible refine (spec_pzHidden.calls k a0_0 a0_1 _ _ l0_2 true _ ?side1 ?side2 A7.out).mono ?_); (case side1 => repeat (first | exact (Kd.C_below HR0_2.out HB.out) | (with_reducible refine Kd.C_alloc ?_ _) | (with_reducible refine Kd.C_drewN ?_ _) | (with_reducible refine Kd.C_drew ?_))); (case side2 => exact HC0_2.out); rintro e w17 ⟨rfl, hb⟩; refine ⟨_, rfl, ?_⟩; replace BK260 := As_ (blk_b hb BK260.out); replace BK261 := As_ (blk_b hb BK261.out); replace HB := As_ (below_step (by repeat (first | (with_reducible first | exact HB.out | apply ba_ | apply bn_ | apply bd_ | refine below_setA ?_ (by assumption)) | exact HB.out)) hb); (try clear hb)) | (go_at_call 42; (with_reducible refine (spec_l1In.calls a1 0 6 false _ A9.out).mono ?_); rintro e w' ⟨rfl, ⟨nd, rfl⟩⟩))
    go_meet
    case rel => exact ⟨_, (true), (by first | rfl | (simp; done) | (simp [*]; done)), H', ⟨by first | omega | exact Nat.le_refl _⟩, ⟨by (with_reducible repeat (first | refine kn_ ?_ _ | refine kd_ ?_ | refine ka_ ?_ _)); exact BK260.out⟩, ⟨by (with_reducible repeat (first | refine kn_ ?_ _ | refine kd_ ?_ | refine ka_ ?_ _)); exact BK261.out⟩, ⟨by repeat (first | (with_reducible first | exact HB.out | apply ba_ | apply bn_ | apply bd_ | refine below_setA ?_ (by assumption)) | exact HB.out)⟩⟩
  ·
   replace c8 := Bool.eq_false_iff.mpr c8
   subst c8
   have H1 : (spec_MakePuzzle.j0 k a1 a2 true a0_0 a0_1 l0_2) = some (r1, r2, r3, r4) := by rw [if_neg (show ¬ (false = true) by decide)] at H; exact H
   clear H
   have H := H1
   clear H1
   have H' := As_ H
   clear H
   have hnb18 := NB260_261.out
   have hnc18 := NB261_260.out
   obtain ⟨hcz19_0, hcz19_1, hcz19_2⟩ := c3_ (w := w6) BK260.out
   obtain ⟨hfz19_0, hfz19_1, hfz19_2⟩ := z3_ BK260.out
   go_wp2_with (first | ((with_reducible refine gate_callee (f := 36) rfl ?_); refine goesL_ (some 13) rfl rfl Try.func36 (by kernel_rfl) rfl #[.agg #[.int .i64 a0_0, .int .i64 a0_1, .slice A0_2 l0_2.length c0_2]] rfl (by (try simp only [List.map_toArray, List.map_cons, List.map_nil]); first | done | rfl | (simp only [List.length_drop, List.length_take]; rfl)) ?_; (with_reducible refine (spec_pzHidden.calls k a0_0 a0_1 _ _ l0_2 false _ ?side1 ?side2 A7.out).mono ?_); (case side1 => repeat (first | exact (Kd.C_below HR0_2.out HB.out) | (with_reducible refine Kd.C_alloc ?_ _) | (with_reducible refine Kd.C_drewN ?_ _) | (with_reducible refine Kd.C_drew ?_))); (case side2 => exact HC0_2.out); rintro e w20 ⟨rfl, hb⟩; refine ⟨_, rfl, ?_⟩; replace BK260 := As_ (blk_b hb BK260.out); replace BK261 := As_ (blk_b hb BK261.out); replace HB := As_ (below_step (by repeat (first | (with_reducible first | exact HB.out | apply ba_ | apply bn_ | apply bd_ | refine below_setA ?_ (by assumption)) | exact HB.out)) hb); (try clear hb)))
   go_meet
   case rel => exact ⟨_, (true), (by first | rfl | (simp; done) | (simp [*]; done)), H', ⟨by first | omega | exact Nat.le_refl _⟩, ⟨by (with_reducible repeat (first | refine kn_ ?_ _ | refine kd_ ?_ | refine ka_ ?_ _)); exact BK260.out⟩, ⟨by (with_reducible repeat (first | refine kn_ ?_ _ | refine kd_ ?_ | refine ka_ ?_ _)); exact BK261.out⟩, ⟨by repeat (first | (with_reducible first | exact HB.out | apply ba_ | apply bn_ | apply bd_ | refine below_setA ?_ (by assumption)) | exact HB.out)⟩⟩
 case rest =>
  clear HC4
  try clear c1; try clear p2; try clear c3; try clear c8; try clear c10; try clear c12; try clear c15; try clear c18; try clear c19; try clear hcz13_0 hcz13_1 hcz13_2; try clear hcz16_0 hcz16_1 hcz16_2; try clear hcz19_0 hcz19_1 hcz19_2; try clear hfz13_0 hfz13_1 hfz13_2; try clear hfz16_0 hfz16_1 hfz16_2; try clear hfz19_0 hfz19_1 hfz19_2
  obtain ⟨kq, x24_3, rfl, HA, HJ3, BK260, BK261, HB⟩ := hcut
  rcases kq with _ | kj3
  · exact absurd HA.out (by simp [spec_MakePuzzle.j0])
  have H := HA.out
  clear HA
  simp only [spec_MakePuzzle.j0] at H
  by_cases c21 : x24_3 = true
  ·
   subst c21
   have H1 : (some (0, 0, ([] : List (S42)), false)) = some (r1, r2, r3, r4) := by rw [if_pos rfl] at H; exact H
   clear H
   have H := H1
   clear H1
   simp only [Option.some.injEq, Prod.mk.injEq] at H
   obtain ⟨rfl, rfl, rfl, rfl⟩ := H
   have hnb22 := NB261_260.out
   have hnc22 := NB260_261.out
   obtain ⟨hcz23_0, hcz23_1, hcz23_2⟩ := c3_ (w := wc) BK261.out
   obtain ⟨hfz23_0, hfz23_1, hfz23_2⟩ := z3_ BK261.out
   go_wp2
   refine bodyPost_ret (results_ct rfl _ _ gb261 47 #[.int .i64 0, .int .i64 0, .slice none 0 0] (0, 0) _ rfl (by (with_reducible repeat (first | refine kn_ ?_ _ | refine kd_ ?_ | refine ka_ ?_ _)); refine blk_put (cs := #[.int .i64 0, .int .i64 0, .slice none 0 0]) ?_ 2 _ rfl; refine blk_put (cs := #[.int .i64 0, .int .i64 0, .slice none 0 0]) ?_ 1 _ rfl; refine blk_put (cs := #[.int .i64 0, .int .i64 0, .slice none 0 0]) ?_ 0 _ rfl; (with_reducible repeat (first | refine kn_ ?_ _ | refine kd_ ?_ | refine ka_ ?_ _)); exact BK261.out) Try.underlying47 rfl (by kernel_rfl)) rfl ?_
   exact ⟨_, by first | rfl | (simp <;> rfl) | (simp [*] <;> rfl), by first | exact Kd.R_nil _ _ _ _ _ | exact Kd.N_nil _ _ _ _ _ | exact Kd.V_nil _ _ _ _ _ | exact Kd.Q_nil _ _ _ _ _ | exact Kd.S_nil _ _ _ _ _, by repeat (first | (with_reducible first | exact HB.out | apply ba_ | apply bn_ | apply bd_ | refine below_setA ?_ (by assumption)) | exact HB.out)⟩
  ·
   replace c21 := Bool.eq_false_iff.mpr c21
   subst c21
   have H1 : (spec_MakePuzzle.l0 kj3 a1 a2 a0_0 a0_1 l0_2 a0_0 a0_1 ([] : List (S42))) = some (r1, r2, r3, r4) := by rw [if_neg (show ¬ (false = true) by decide)] at H; exact H
   clear H
   have H := H1
   clear H1
   have H' := As_ H
   clear H
   have hnb24 := NB260_261.out
   have hnc24 := NB261_260.out
   obtain ⟨hcz25_0, hcz25_1, hcz25_2⟩ := c3_ (w := wc) BK260.out
   obtain ⟨hfz25_0, hfz25_1, hfz25_2⟩ := z3_ BK260.out
   go_wp2_with (first | ((with_reducible refine gate_dst (N := 8) rfl ?_); refine box_event rfl (N := 8) rfl (cs := #[.int .i64 0, .int .i64 0, .slice none 0 0]) (t := 47) ?hr ?_; (case hr => first | (go_simp; done) | (go_simp; rfl)); intro gb265 hg w26 hbox hb; have BK265 := As_ (hbox); have hW_ := bel_ w hb (by repeat (first | (with_reducible first | exact HB.out | apply ba_ | apply bn_ | apply bd_ | refine below_setA ?_ (by assumption)) | exact HB.out)); have GE265 := As_ (gesz hg hW_); have NB260_265 := As_ (ne_lt hg BK260.out); have NB265_260 := As_ (ne_gt hg BK260.out); have NB261_265 := As_ (ne_lt hg BK261.out); have NB265_261 := As_ (ne_gt hg BK261.out); replace BK260 := As_ (blk_b hb BK260.out); replace BK261 := As_ (blk_b hb BK261.out); replace HB := As_ (below_step hW_ hb); clear hW_ hb hbox hg; have hnb27 := NB265_260.out; have hnc27 := NB260_265.out; have hnb28 := NB265_261.out; have hnc28 := NB261_265.out; obtain ⟨hcz29_0, hcz29_1, hcz29_2⟩ := c3_ (w := w26) BK265.out; obtain ⟨hfz29_0, hfz29_1, hfz29_2⟩ := z3_ BK265.out))
   go_loopg [1, 9] kj3 (fun kq v1 v9 w' => ∃ (x1_2 : Int) (x9_2 : Int) (x266002_2 : List (S42)) (u266002 : Value), v1 = .int .i64 x1_2 ∧ v9 = .int .i64 x9_2 ∧ Aside0 (spec_MakePuzzle.l0 kq x1_2 x9_2 a0_0 a0_1 l0_2 a0_0 a0_1 x266002_2 = some (r1, r2, r3, r4)) ∧ Aside0 (kq ≤ kj3) ∧ Aside0 (Kd.R k42 42 w' w.heap.size (fun _ => True) u266002 x266002_2) ∧ Aside0 (w'.heap[gb260]? = some (.cells #[.int .i64 a0_0, .int .i64 a0_1, (.slice A0_2 l0_2.length c0_2)] 31 (0, 0))) ∧ Aside0 (w'.heap[gb261]? = some (.cells #[.int .i64 0, .int .i64 0, (.slice none 0 0)] 47 (0, 0))) ∧ Aside0 (w'.heap[gb265]? = some (.cells #[.int .i64 a0_0, .int .i64 a0_1, u266002] 47 (0, 0))) ∧ Aside0 (Below w.heap.size w w'))
   case atStart => exact ⟨(a1), (a2), (([] : List (S42))), (.slice none 0 0), (by first | rfl | (simp; done) | (simp [*]; done)), (by first | rfl | (simp; done) | (simp [*]; done)), H', ⟨Nat.le_refl _⟩, ⟨by first | exact Kd.R_nil _ _ _ _ _ | exact Kd.N_nil _ _ _ _ _ | exact Kd.V_nil _ _ _ _ _ | exact Kd.Q_nil _ _ _ _ _ | exact Kd.S_nil _ _ _ _ _⟩, ⟨by (with_reducible repeat (first | refine kn_ ?_ _ | refine kd_ ?_ | refine ka_ ?_ _)); refine blk_far ?_ NB260_265.out _; refine blk_far ?_ NB260_265.out _; refine blk_far ?_ NB260_265.out _; (with_reducible repeat (first | refine kn_ ?_ _ | refine kd_ ?_ | refine ka_ ?_ _)); exact BK260.out⟩, ⟨by (with_reducible repeat (first | refine kn_ ?_ _ | refine kd_ ?_ | refine ka_ ?_ _)); refine blk_far ?_ NB261_265.out _; refine blk_far ?_ NB261_265.out _; refine blk_far ?_ NB261_265.out _; (with_reducible repeat (first | refine kn_ ?_ _ | refine kd_ ?_ | refine ka_ ?_ _)); exact BK261.out⟩, ⟨by (with_reducible repeat (first | refine kn_ ?_ _ | refine kd_ ?_ | refine ka_ ?_ _)); refine blk_put (cs := #[.int .i64 a0_0, .int .i64 a0_1, .slice none 0 0]) ?_ 2 _ rfl; refine blk_put (cs := #[.int .i64 a0_0, .int .i64 0, .slice none 0 0]) ?_ 1 _ rfl; refine blk_put (cs := #[.int .i64 0, .int .i64 0, .slice none 0 0]) ?_ 0 _ rfl; (with_reducible repeat (first | refine kn_ ?_ _ | refine kd_ ?_ | refine ka_ ?_ _)); exact BK265.out⟩, ⟨by repeat (first | (with_reducible first | exact HB.out | apply ba_ | apply bn_ | apply bd_ | refine below_setA ?_ (by assumption)) | exact HB.out)⟩⟩
   case round =>
    clear H'
    try clear c1; try clear c2; try clear p2; try clear c3; try clear c8; try clear c10; try clear c12; try clear c15; try clear c18; try clear c19; try clear c21; try clear c22; try clear c24; try clear c27; try clear c28; try clear hcz13_0 hcz13_1 hcz13_2; try clear hcz16_0 hcz16_1 hcz16_2; try clear hcz19_0 hcz19_1 hcz19_2; try clear hcz23_0 hcz23_1 hcz23_2; try clear hcz25_0 hcz25_1 hcz25_2; try clear hcz29_0 hcz29_1 hcz29_2; try clear hfz13_0 hfz13_1 hfz13_2; try clear hfz16_0 hfz16_1 hfz16_2; try clear hfz19_0 hfz19_1 hfz19_2; try clear hfz23_0 hfz23_1 hfz23_2; try clear hfz25_0 hfz25_1 hfz25_2; try clear hfz29_0 hfz29_1 hfz29_2; try clear p2
    obtain ⟨x1_2, x9_2, x266002_2, u266002, rfl, rfl, HA, HK2, HO_266002, BK260, BK261, BK265, HB⟩ := hrel
    rcases gk with _ | k2
    · exact absurd HA.out (by simp [spec_MakePuzzle.l0])
    have H := HA.out
    clear HA
    simp only [spec_MakePuzzle.l0] at H
    by_cases c30 : x1_2 > 0
    ·
     rw [if_pos c30] at H
     have c30b0 : decide (0 < x1_2) = true := decide_eq_true c30
     clear c30
     replace H := Option.bind_eq_some_iff.mp H
     obtain ⟨t266, A310, H⟩ := H
     replace H : ((spec_pzAlone.f (Int.tmod t266 6)).bind fun t267 => (if t267 = true then ((spec_pzOf.f k2 (Int.tmod t266 6) 0 a0_0 a0_1 l0_2).bind fun bt268 => (if x266002_2.length < 5864062014805 then (spec_MakePuzzle.l0 k2 (wrap64 (x1_2 - 1)) t266 a0_0 a0_1 l0_2 a0_0 a0_1 (x266002_2 ++ [(⟨bt268.1, bt268.2.1, bt268.2.2⟩ : S42)])) else (none))) else ((spec_pzNext.f t266).bind fun t274 => (if (Int.tmod t266 6) = 1 then ((spec_pzOf.f k2 (Int.tmod t266 6) (wrap64 ((Int.tmod t274 3) + 1)) a0_0 a0_1 l0_2).bind fun bt275 => (if x266002_2.length < 5864062014805 then (spec_MakePuzzle.l0 k2 (wrap64 (x1_2 - 1)) t274 a0_0 a0_1 l0_2 a0_0 a0_1 (x266002_2 ++ [(⟨bt275.1, bt275.2.1, bt275.2.2⟩ : S42)])) else (none))) else (if (Int.tmod t266 6) = 2 then (if (wrap64 (a0_0 * a0_1)) = 0 then (none) else ((spec_pzOf.f k2 (Int.tmod t266 6) (Int.tmod t274 (wrap64 (a0_0 * a0_1))) a0_0 a0_1 l0_2).bind fun bt281 => (if x266002_2.length < 5864062014805 then (spec_MakePuzzle.l0 k2 (wrap64 (x1_2 - 1)) t274 a0_0 a0_1 l0_2 a0_0 a0_1 (x266002_2 ++ [(⟨bt281.1, bt281.2.1, bt281.2.2⟩ : S42)])) else (none)))) else ((spec_pzOf.f k2 (Int.tmod t266 6) (Int.tmod t274 4) a0_0 a0_1 l0_2).bind fun bt287 => (if x266002_2.length < 5864062014805 then (spec_MakePuzzle.l0 k2 (wrap64 (x1_2 - 1)) t274 a0_0 a0_1 l0_2 a0_0 a0_1 (x266002_2 ++ [(⟨bt287.1, bt287.2.1, bt287.2.2⟩ : S42)])) else (none)))))))) = some (r1, r2, r3, r4) := H
     have A31 := As_ A310
     clear A310
     replace H := Option.bind_eq_some_iff.mp H
     obtain ⟨t267, A320, H⟩ := H
     replace H : (if t267 = true then ((spec_pzOf.f k2 (Int.tmod t266 6) 0 a0_0 a0_1 l0_2).bind fun bt268 => (if x266002_2.length < 5864062014805 then (spec_MakePuzzle.l0 k2 (wrap64 (x1_2 - 1)) t266 a0_0 a0_1 l0_2 a0_0 a0_1 (x266002_2 ++ [(⟨bt268.1, bt268.2.1, bt268.2.2⟩ : S42)])) else (none))) else ((spec_pzNext.f t266).bind fun t274 => (if (Int.tmod t266 6) = 1 then ((spec_pzOf.f k2 (Int.tmod t266 6) (wrap64 ((Int.tmod t274 3) + 1)) a0_0 a0_1 l0_2).bind fun bt275 => (if x266002_2.length < 5864062014805 then (spec_MakePuzzle.l0 k2 (wrap64 (x1_2 - 1)) t274 a0_0 a0_1 l0_2 a0_0 a0_1 (x266002_2 ++ [(⟨bt275.1, bt275.2.1, bt275.2.2⟩ : S42)])) else (none))) else (if (Int.tmod t266 6) = 2 then (if (wrap64 (a0_0 * a0_1)) = 0 then (none) else ((spec_pzOf.f k2 (Int.tmod t266 6) (Int.tmod t274 (wrap64 (a0_0 * a0_1))) a0_0 a0_1 l0_2).bind fun bt281 => (if x266002_2.length < 5864062014805 then (spec_MakePuzzle.l0 k2 (wrap64 (x1_2 - 1)) t274 a0_0 a0_1 l0_2 a0_0 a0_1 (x266002_2 ++ [(⟨bt281.1, bt281.2.1, bt281.2.2⟩ : S42)])) else (none)))) else ((spec_pzOf.f k2 (Int.tmod t266 6) (Int.tmod t274 4) a0_0 a0_1 l0_2).bind fun bt287 => (if x266002_2.length < 5864062014805 then (spec_MakePuzzle.l0 k2 (wrap64 (x1_2 - 1)) t274 a0_0 a0_1 l0_2 a0_0 a0_1 (x266002_2 ++ [(⟨bt287.1, bt287.2.1, bt287.2.2⟩ : S42)])) else (none))))))) = some (r1, r2, r3, r4) := H
     have A32 := As_ A320
     clear A320
     by_cases c33 : t267 = true
     ·
      subst c33
      have H1 : ((spec_pzOf.f k2 (Int.tmod t266 6) 0 a0_0 a0_1 l0_2).bind fun bt268 => (if x266002_2.length < 5864062014805 then (spec_MakePuzzle.l0 k2 (wrap64 (x1_2 - 1)) t266 a0_0 a0_1 l0_2 a0_0 a0_1 (x266002_2 ++ [(⟨bt268.1, bt268.2.1, bt268.2.2⟩ : S42)])) else (none))) = some (r1, r2, r3, r4) := by rw [if_pos rfl] at H; exact H
      clear H
      have H := H1
      clear H1
      replace H := Option.bind_eq_some_iff.mp H
      obtain ⟨⟨t268, t269, t270⟩, A340, H⟩ := H
      replace H : (if x266002_2.length < 5864062014805 then (spec_MakePuzzle.l0 k2 (wrap64 (x1_2 - 1)) t266 a0_0 a0_1 l0_2 a0_0 a0_1 (x266002_2 ++ [(⟨t268, t269, t270⟩ : S42)])) else (none)) = some (r1, r2, r3, r4) := H
      have A34 := As_ A340
      clear A340
      by_cases c35 : x266002_2.length < 5864062014805
      case neg => rw [if_neg c35] at H; exact absurd H (by simp)
      rw [if_pos c35] at H
      have LMc35 := As_ c35
      clear c35
      obtain ⟨y271, hy271⟩ : ∃ y_ : List (S42), y_ = (x266002_2 ++ [(⟨t268, t269, t270⟩ : S42)]) := ⟨_, rfl⟩
      replace H : (spec_MakePuzzle.l0 k2 (wrap64 (x1_2 - 1)) t266 a0_0 a0_1 l0_2 a0_0 a0_1 y271) = some (r1, r2, r3, r4) := by first | (rw [hy271]; with_reducible exact H) | (have H2_ := (Option.bind_some _ _).symm.trans H; rw [hy271]; with_reducible exact H2_) | (have H2_ := (Option.bind_some _ _).symm.trans H; with_reducible exact H2_) | with_reducible exact H | (rw [hy271]; exact H) | exact H
      have Ny271 := As_ hy271
      clear hy271
      have H' := As_ H
      clear H
      try go_wp2_with (first | ((with_reducible refine gate_callee (f := 43) rfl ?_); refine goesL_ (some 37) rfl rfl Try.func43 (by kernel_rfl) rfl #[.int .i64 x9_2] rfl (by (try simp only [List.map_toArray, List.map_cons, List.map_nil]); first | done | rfl | (simp only [List.length_drop, List.length_take]; rfl)) ?_; (with_reducible refine (spec_pzNext.calls x9_2 t266 _ A31.out).mono ?_); rintro e w' ⟨rfl, ⟨nd, rfl⟩⟩; refine ⟨_, rfl, ?_⟩; (try (rw [drewN_self wr]; generalize hq_ : World.drewN wr _ = wr; have n0_ : Aside0 (Kd.R k42 42 wr w.heap.size (fun _ => True) u266002 x266002_2) := ⟨by rw [← hq_]; exact (by (with_reducible repeat (first | apply Kd.R_alloc | apply Kd.R_drewN | apply Kd.R_drew)); exact HO_266002.out)⟩; have n1_ : Aside0 (wr.heap[gb260]? = some (.cells #[.int .i64 a0_0, .int .i64 a0_1, .slice A0_2 l0_2.length c0_2] 31 (0, 0))) := ⟨by rw [← hq_]; exact BK260.out⟩; have n2_ : Aside0 (wr.heap[gb261]? = some (.cells #[.int .i64 0, .int .i64 0, .slice none 0 0] 47 (0, 0))) := ⟨by rw [← hq_]; exact BK261.out⟩; have n3_ : Aside0 (wr.heap[gb265]? = some (.cells #[.int .i64 a0_0, .int .i64 a0_1, u266002] 47 (0, 0))) := ⟨by rw [← hq_]; exact BK265.out⟩; have n4_ : Aside0 (Below w.heap.size w wr) := ⟨by rw [← hq_]; exact (by repeat (first | (with_reducible first | exact HB.out | apply ba_ | apply bn_ | apply bd_ | refine below_setA ?_ (by assumption)) | exact HB.out))⟩; clear HO_266002 BK260 BK261 BK265 HB hq_; have HO_266002 := n0_; have BK260 := n1_; have BK261 := n2_; have BK265 := n3_; have HB := n4_; clear n0_ n1_ n2_ n3_ n4_))) | ((with_reducible refine gate_callee (f := 44) rfl ?_); refine goesL_ (some 41) rfl rfl Try.func44 (by kernel_rfl) rfl #[.int .i64 (Int.tmod t266 6)] rfl (by (try simp only [List.map_toArray, List.map_cons, List.map_nil]); first | done | rfl | (simp only [List.length_drop, List.length_take]; rfl)) ?_; (with_reducible refine (spec_pzAlone.calls (Int.tmod t266 6) true _ A32.out).mono ?_); rintro e w' ⟨rfl, ⟨nd, rfl⟩⟩; refine ⟨_, rfl, ?_⟩; (try (rw [drewN_self wr]; generalize hq_ : World.drewN wr _ = wr; have n0_ : Aside0 (Kd.R k42 42 wr w.heap.size (fun _ => True) u266002 x266002_2) := ⟨by rw [← hq_]; exact (by (with_reducible repeat (first | apply Kd.R_alloc | apply Kd.R_drewN | apply Kd.R_drew)); exact HO_266002.out)⟩; have n1_ : Aside0 (wr.heap[gb260]? = some (.cells #[.int .i64 a0_0, .int .i64 a0_1, .slice A0_2 l0_2.length c0_2] 31 (0, 0))) := ⟨by rw [← hq_]; exact BK260.out⟩; have n2_ : Aside0 (wr.heap[gb261]? = some (.cells #[.int .i64 0, .int .i64 0, .slice none 0 0] 47 (0, 0))) := ⟨by rw [← hq_]; exact BK261.out⟩; have n3_ : Aside0 (wr.heap[gb265]? = some (.cells #[.int .i64 a0_0, .int .i64 a0_1, u266002] 47 (0, 0))) := ⟨by rw [← hq_]; exact BK265.out⟩; have n4_ : Aside0 (Below w.heap.size w wr) := ⟨by rw [← hq_]; exact (by repeat (first | (with_reducible first | exact HB.out | apply ba_ | apply bn_ | apply bd_ | refine below_setA ?_ (by assumption)) | exact HB.out))⟩; clear HO_266002 BK260 BK261 BK265 HB hq_; have HO_266002 := n0_; have BK260 := n1_; have BK261 := n2_; have BK265 := n3_; have HB := n4_; clear n0_ n1_ n2_ n3_ n4_))))
      replace HO_266002 := As_ (Kd.R_drew HO_266002.out)
      replace BK260 := As_ (blk_drew BK260.out)
      replace BK261 := As_ (blk_drew BK261.out)
      replace BK265 := As_ (blk_drew BK265.out)
      replace HB := As_ (below_drew1 HB.out)
      refine start_ (n := 10) (S := fun w' => w'.cell? ⟨gb265, 0, none⟩ = some (.int .i64 a0_0) ∧ w'.cell? ⟨gb265, 1, none⟩ = some (.int .i64 a0_1) ∧ w'.cell? ⟨gb265, 2, none⟩ = some (u266002) ∧ w'.cell? ⟨gb260, 0, none⟩ = some (.int .i64 a0_0) ∧ w'.cell? ⟨gb260, 1, none⟩ = some (.int .i64 a0_1) ∧ w'.cell? ⟨gb260, 2, none⟩ = some (.slice A0_2 l0_2.length c0_2)) (ds := [9]) #[false, false, false, false, false, false, false, false, false, false] (by kernel_rfl) rfl rfl ⟨(blk_cell BK265.out 0).trans rfl, (blk_cell BK265.out 1).trans rfl, (blk_cell BK265.out 2).trans rfl, (blk_cell BK260.out 0).trans rfl, (blk_cell BK260.out 1).trans rfl, (blk_cell BK260.out 2).trans rfl⟩ (fun hHeld => ?_); refine with_tabW spec_MakePuzzle.tab17 spec_MakePuzzle.bits17 (fun HT_ HW_ => ?_)
      generalize wr.drew = w36 at HO_266002 BK260 BK261 BK265 HB hHeld ⊢
      refine pu_ (v := ?_) (a' := ?_) 0 (some 62) #[true, false, false, false, false, false, false, false, false, false] rfl rfl (any_of HT_.out (by kernel_rfl)) (fun _ _ _ h => h) (.inl ⟨by rfl, ?_⟩) ?_ ?_; rotate_left
      · intro w'; go_simp; with_reducible rfl
      rotate_left
      · simp only [Act.put, sib_, sc0_, sc1_, i64_w, i32_w]; rfl
      refine pu_ (v := ?_) (a' := ?_) 2 (some 64) #[true, false, true, false, false, false, false, false, false, false] rfl rfl (any_of HT_.out (by kernel_rfl)) (fun _ _ _ h => h) (.inl ⟨by rfl, ?_⟩) ?_ ?_; rotate_left
      · intro w'; go_simp; with_reducible rfl
      rotate_left
      · simp only [Act.put, sib_, sc0_, sc1_, i64_w, i32_w]; rfl
      refine pu_ (v := ?_) (a' := ?_) 3 (some 65) #[true, false, true, true, false, false, false, false, false, false] rfl rfl (any_of HT_.out (by kernel_rfl)) (fun _ _ _ h => h) (.inl ⟨by rfl, ?_⟩) ?_ ?_; rotate_left
      · intro w'; go_simp; with_reducible rfl
      rotate_left
      · simp only [Act.put, sib_, sc0_, sc1_, i64_w, i32_w]; rfl
      refine take_ (i := 1) (N := some 63) (v := ?_) (a' := ?_) #[true, true, true, true, false, false, false, false, false, false] rfl rfl (take_ofW HT_.out HW_.out (by kernel_rfl)) (fun _ _ _ h => h) (Or.inl ⟨by rfl, ?_⟩) hHeld ?_ ?_; rotate_left
      ·
       rintro w' ⟨s0, s1, s2, s3, s4, s5⟩
       go_simp
       with_reducible rfl
      rotate_left
      · simp only [Act.put, sib_, sc0_, sc1_, i64_w, i32_w]; rfl
      refine take_ (i := 4) (N := some 66) (v := ?_) (a' := ?_) #[true, true, true, true, true, false, false, false, false, false] rfl rfl (take_ofW HT_.out HW_.out (by kernel_rfl)) (fun _ _ _ h => h) (Or.inl ⟨by rfl, ?_⟩) hHeld ?_ ?_; rotate_left
      ·
       rintro w' ⟨s0, s1, s2, s3, s4, s5⟩
       go_simp
       with_reducible rfl
      rotate_left
      · simp only [Act.put, sib_, sc0_, sc1_, i64_w, i32_w]; rfl
      refine one_ (i := 5) (N := some 67) #[true, true, true, true, true, true, false, false, false, false] rfl rfl (one_of HT_.out (by kernel_rfl)) (by decide) (fun K hK => ?_)
      refine goes_ Try.func45 (by kernel_rfl) rfl #[.int .i64 (Int.tmod t266 6), .int .i64 0, .agg #[.int .i64 a0_0, .int .i64 a0_1, .slice A0_2 l0_2.length c0_2]] (by rfl) rfl rfl (by (try simp only [List.map_toArray, List.map_cons, List.map_nil]); first | done | rfl | (simp only [List.length_drop, List.length_take]; rfl)) ?_
      with_reducible refine (spec_pzOf.calls k2 (Int.tmod t266 6) 0 a0_0 a0_1 _ _ l0_2 t268 t269 t270 _ ?side1 ?side2 A34.out).mono ?_
      (case side1 => repeat (first | exact (Kd.C_below HR0_2.out HB.out) | (with_reducible refine Kd.C_alloc ?_ _) | (with_reducible refine Kd.C_drewN ?_ _) | (with_reducible refine Kd.C_drew ?_)))
      (case side2 => exact HC0_2.out)
      rintro e w37 ⟨rfl, hb⟩
      refine ⟨_, rfl, ?_⟩
      replace HO_266002 := As_ (Kd.R_below (by (with_reducible repeat (first | apply Kd.R_alloc | apply Kd.R_drewN | apply Kd.R_drew)); exact HO_266002.out) hb)
      replace BK260 := As_ (blk_b hb BK260.out)
      replace BK261 := As_ (blk_b hb BK261.out)
      replace BK265 := As_ (blk_b hb BK265.out)
      replace HB := As_ (below_step (by repeat (first | (with_reducible first | exact HB.out | apply ba_ | apply bn_ | apply bd_ | refine below_setA ?_ (by assumption)) | exact HB.out)) hb)
      (try clear hb)
      (try clear hb2)
      (try clear hk)
      (try clear hi)
      refine hK.out _ _ ⟨(blk_cell BK265.out 0).trans rfl, (blk_cell BK265.out 1).trans rfl, (blk_cell BK265.out 2).trans rfl, (blk_cell BK260.out 0).trans rfl, (blk_cell BK260.out 1).trans rfl, (blk_cell BK260.out 2).trans rfl⟩ (fun hHeld => ?_); clear hK K
      refine norm_ (a' := ?_) ?_ ?_; rotate_left
      ·
       show Act.put _ (some 67) _ = _
       simp only [Act.put, sib_, sc0_, sc1_, i64_w, i32_w]
       rfl
      refine one_ (i := 6) (N := some 68) #[true, true, true, true, true, true, true, false, false, false] rfl rfl (one_of HT_.out (by kernel_rfl)) (by decide) (fun K hK => ?_)
      refine value_ (w1 := ?_) (v := ?_) (by rfl) rfl ?_ ?_
      rotate_left 2
      ·
       go_simp
       constructor
       · rfl
       · rfl
      refine hK.out _ _ ⟨(blk_cell (blk_alloc BK265.out _) 0).trans rfl, (blk_cell (blk_alloc BK265.out _) 1).trans rfl, (blk_cell (blk_alloc BK265.out _) 2).trans rfl, (blk_cell (blk_alloc BK260.out _) 0).trans rfl, (blk_cell (blk_alloc BK260.out _) 1).trans rfl, (blk_cell (blk_alloc BK260.out _) 2).trans rfl⟩ (fun hHeld => ?_); clear hK K
      refine norm_ (a' := ?_) ?_ ?_; rotate_left
      ·
       show Act.put _ (some 68) _ = _
       simp only [Act.put, sib_, sc0_, sc1_, i64_w, i32_w]
       rfl
      refine one_ (i := 7) (N := some 69) #[true, true, true, true, true, true, true, true, false, false] rfl rfl (one_of HT_.out (by kernel_rfl)) (by decide) (fun K hK => ?_)
      refine Kd.R_append_step k42 (w0 := w) w.heap.size (by rfl) (.tmp 63) (.tmp 68) 45 42 (.agg #[(.int .i64 0), (.int .i64 0), (.int .i64 0)]) 24 rfl Try.underlying45 info42 rfl (by decide) (by omega) u266002 x266002_2 (⟨t268, t269, t270⟩ : S42) [.int .i64 t268, .int .i64 t269, .int .i64 t270] (fun _ => True) (fun _ => False) rfl rfl ?aP (fun _ hk => hk.elim) ?aF ?aO ?aB ?aS ?aL ?_
      (case aP => exact k42_mkM _ _ _ (⟨t268, t269, t270⟩ : S42))
      (case aB => exact (by repeat (first | (with_reducible first | exact HB.out | apply ba_ | apply bn_ | apply bd_ | refine below_setA ?_ (by assumption)) | exact HB.out)))
      (case aF => exact (fun _ _ => trivial))
      (case aO => exact (by (with_reducible repeat (first | apply Kd.R_alloc | apply Kd.R_drewN | apply Kd.R_drew)); exact HO_266002.out))
      (case aS => exact (below_size (by repeat (first | (with_reducible first | exact HB.out | apply ba_ | apply bn_ | apply bd_ | refine below_setA ?_ (by assumption)) | exact HB.out))))
      (case aL => have := LMc35.out; omega)
      intro v272 w38 ho hb hg hat
      rw [← Ny271.out] at ho
      have n0_ := As_ (blk_grown (g := gb260) (o := .cells #[.int .i64 a0_0, .int .i64 a0_1, .slice A0_2 l0_2.length c0_2] 31 (0, 0)) BK260.out hg (Kd.R_ne HO_266002.out BK260.out (by decide)))
      have n1_ := As_ (blk_grown (g := gb261) (o := .cells #[.int .i64 0, .int .i64 0, .slice none 0 0] 47 (0, 0)) BK261.out hg (Kd.R_ne HO_266002.out BK261.out (by decide)))
      have n2_ := As_ (blk_grown (g := gb265) (o := .cells #[.int .i64 a0_0, .int .i64 a0_1, u266002] 47 (0, 0)) BK265.out hg (Kd.R_ne HO_266002.out BK265.out (by decide)))
      have n3_ := As_ (hb)
      have n4_ := As_ (ho)
      clear BK260; clear BK261; clear BK265; clear HB; clear HO_266002
      have BK260 := n0_
      have BK261 := n1_
      have BK265 := n2_
      have HB := n3_
      have HO273 := n4_
      clear n0_ n1_ n2_ n3_ n4_; clear ho hb hg hat
      obtain ⟨Ao39, co39, eo39⟩ := Kd.R_slice HO273.out
      (first | subst eo39 | (injection eo39 with f1_ f2_ f3_; have f4_ := f1_.symm; have f5_ := f3_.symm; clear f1_ f2_ f3_; subst f4_; subst f5_))
      refine hK.out _ _ ⟨(blk_cell BK265.out 0).trans rfl, (blk_cell BK265.out 1).trans rfl, (blk_cell BK265.out 2).trans rfl, (blk_cell BK260.out 0).trans rfl, (blk_cell BK260.out 1).trans rfl, (blk_cell BK260.out 2).trans rfl⟩ (fun hHeld => ?_); clear hK K
      refine norm_ (a' := ?_) ?_ ?_; rotate_left
      ·
       show Act.put _ (some 69) _ = _
       simp only [Act.put, sib_, sc0_, sc1_, i64_w, i32_w]
       rfl
      refine pu_ (v := ?_) (a' := ?_) 8 (some 70) #[true, true, true, true, true, true, true, true, true, false] rfl rfl (any_of HT_.out (by kernel_rfl)) (fun _ _ _ h => h) (.inl ⟨by rfl, ?_⟩) ?_ ?_; rotate_left
      · intro w'; go_simp; with_reducible rfl
      rotate_left
      · simp only [Act.put, sib_, sc0_, sc1_, i64_w, i32_w]; rfl
      refine last_ (i := 9) (N := none) #[true, true, true, true, true, true, true, true, true, true] rfl rfl (one_of HT_.out (by kernel_rfl)) (by decide) (fun K hK => ?_)
      have hs40 : w38.cell? ⟨gb265, 2, none⟩ = some (u266002) := (blk_cell BK265.out 2).trans rfl
      have hfs40 := blk_frozen BK265.out 2
      have hns40_0 := NB260_265.out
      have hns40_1 := NB261_265.out
      have hms40_0 := NB265_260.out
      have hms40_1 := NB265_261.out
      refine skip_ (w1 := ?_) (by rfl) rfl ?_ ?_; rotate_left
      ·
       go_simp
       rfl
      refine hK.out _ _ ?_; clear hK K
      refine done_ (done_of HT_.out (by kernel_rfl)) ?_
      try go_wp2
      go_roundg k2
      case measure => have := HJ3.out; have := HK2.out; omega
      case rel => exact ⟨(wrap64 (x1_2 - 1)), (t266), (y271), (.slice Ao39 y271.length co39), (by first | rfl | (simp; done) | (simp [*]; done)), (by first | rfl | (simp; done) | (simp [*]; done)), H', ⟨by have := HJ3.out; have := HK2.out; omega⟩, ⟨by (with_reducible repeat (first | apply Kd.R_alloc | apply Kd.R_drewN | apply Kd.R_drew)); exact Kd.R_mono (Kd.R_far (p := ⟨gb265, 2, none⟩) (Kd.R_types HO273.out BK265.out (by decide)) (fun _ hk => hk.2) (.slice Ao39 y271.length co39)) (fun _ hk => trivial)⟩, ⟨by (with_reducible repeat (first | refine kn_ ?_ _ | refine kd_ ?_ | refine ka_ ?_ _)); refine blk_far ?_ NB260_265.out _; (with_reducible repeat (first | refine kn_ ?_ _ | refine kd_ ?_ | refine ka_ ?_ _)); exact BK260.out⟩, ⟨by (with_reducible repeat (first | refine kn_ ?_ _ | refine kd_ ?_ | refine ka_ ?_ _)); refine blk_far ?_ NB261_265.out _; (with_reducible repeat (first | refine kn_ ?_ _ | refine kd_ ?_ | refine ka_ ?_ _)); exact BK261.out⟩, ⟨by (with_reducible repeat (first | refine kn_ ?_ _ | refine kd_ ?_ | refine ka_ ?_ _)); refine blk_put (cs := #[.int .i64 a0_0, .int .i64 a0_1, u266002]) ?_ 2 _ rfl; (with_reducible repeat (first | refine kn_ ?_ _ | refine kd_ ?_ | refine ka_ ?_ _)); exact BK265.out⟩, ⟨by repeat (first | (with_reducible first | exact HB.out | apply ba_ | apply bn_ | apply bd_ | refine below_setA ?_ (by assumption)) | exact HB.out)⟩⟩
     ·
      replace c33 := Bool.eq_false_iff.mpr c33
      subst c33
      have H1 : ((spec_pzNext.f t266).bind fun t274 => (if (Int.tmod t266 6) = 1 then ((spec_pzOf.f k2 (Int.tmod t266 6) (wrap64 ((Int.tmod t274 3) + 1)) a0_0 a0_1 l0_2).bind fun bt275 => (if x266002_2.length < 5864062014805 then (spec_MakePuzzle.l0 k2 (wrap64 (x1_2 - 1)) t274 a0_0 a0_1 l0_2 a0_0 a0_1 (x266002_2 ++ [(⟨bt275.1, bt275.2.1, bt275.2.2⟩ : S42)])) else (none))) else (if (Int.tmod t266 6) = 2 then (if (wrap64 (a0_0 * a0_1)) = 0 then (none) else ((spec_pzOf.f k2 (Int.tmod t266 6) (Int.tmod t274 (wrap64 (a0_0 * a0_1))) a0_0 a0_1 l0_2).bind fun bt281 => (if x266002_2.length < 5864062014805 then (spec_MakePuzzle.l0 k2 (wrap64 (x1_2 - 1)) t274 a0_0 a0_1 l0_2 a0_0 a0_1 (x266002_2 ++ [(⟨bt281.1, bt281.2.1, bt281.2.2⟩ : S42)])) else (none)))) else ((spec_pzOf.f k2 (Int.tmod t266 6) (Int.tmod t274 4) a0_0 a0_1 l0_2).bind fun bt287 => (if x266002_2.length < 5864062014805 then (spec_MakePuzzle.l0 k2 (wrap64 (x1_2 - 1)) t274 a0_0 a0_1 l0_2 a0_0 a0_1 (x266002_2 ++ [(⟨bt287.1, bt287.2.1, bt287.2.2⟩ : S42)])) else (none)))))) = some (r1, r2, r3, r4) := by rw [if_neg (show ¬ (false = true) by decide)] at H; exact H
      clear H
      have H := H1
      clear H1
      replace H := Option.bind_eq_some_iff.mp H
      obtain ⟨t274, A410, H⟩ := H
      replace H : (if (Int.tmod t266 6) = 1 then ((spec_pzOf.f k2 (Int.tmod t266 6) (wrap64 ((Int.tmod t274 3) + 1)) a0_0 a0_1 l0_2).bind fun bt275 => (if x266002_2.length < 5864062014805 then (spec_MakePuzzle.l0 k2 (wrap64 (x1_2 - 1)) t274 a0_0 a0_1 l0_2 a0_0 a0_1 (x266002_2 ++ [(⟨bt275.1, bt275.2.1, bt275.2.2⟩ : S42)])) else (none))) else (if (Int.tmod t266 6) = 2 then (if (wrap64 (a0_0 * a0_1)) = 0 then (none) else ((spec_pzOf.f k2 (Int.tmod t266 6) (Int.tmod t274 (wrap64 (a0_0 * a0_1))) a0_0 a0_1 l0_2).bind fun bt281 => (if x266002_2.length < 5864062014805 then (spec_MakePuzzle.l0 k2 (wrap64 (x1_2 - 1)) t274 a0_0 a0_1 l0_2 a0_0 a0_1 (x266002_2 ++ [(⟨bt281.1, bt281.2.1, bt281.2.2⟩ : S42)])) else (none)))) else ((spec_pzOf.f k2 (Int.tmod t266 6) (Int.tmod t274 4) a0_0 a0_1 l0_2).bind fun bt287 => (if x266002_2.length < 5864062014805 then (spec_MakePuzzle.l0 k2 (wrap64 (x1_2 - 1)) t274 a0_0 a0_1 l0_2 a0_0 a0_1 (x266002_2 ++ [(⟨bt287.1, bt287.2.1, bt287.2.2⟩ : S42)])) else (none))))) = some (r1, r2, r3, r4) := H
      have A41 := As_ A410
      clear A410
      by_cases c42 : (Int.tmod t266 6) = 1
      ·
       rw [if_pos c42] at H
       have c42b0 : ((Int.tmod t266 6) == 1) = true := beq_iff_eq.mpr c42
       have c42b1 : ((Int.tmod t266 6) != 1) = false := bne_eq_false_iff_eq.mpr c42
       clear c42
       replace H := Option.bind_eq_some_iff.mp H
       obtain ⟨⟨t275, t276, t277⟩, A430, H⟩ := H
       replace H : (if x266002_2.length < 5864062014805 then (spec_MakePuzzle.l0 k2 (wrap64 (x1_2 - 1)) t274 a0_0 a0_1 l0_2 a0_0 a0_1 (x266002_2 ++ [(⟨t275, t276, t277⟩ : S42)])) else (none)) = some (r1, r2, r3, r4) := H
       have A43 := As_ A430
       clear A430
       by_cases c44 : x266002_2.length < 5864062014805
       case neg => rw [if_neg c44] at H; exact absurd H (by simp)
       rw [if_pos c44] at H
       have LMc44 := As_ c44
       clear c44
       obtain ⟨y278, hy278⟩ : ∃ y_ : List (S42), y_ = (x266002_2 ++ [(⟨t275, t276, t277⟩ : S42)]) := ⟨_, rfl⟩
       replace H : (spec_MakePuzzle.l0 k2 (wrap64 (x1_2 - 1)) t274 a0_0 a0_1 l0_2 a0_0 a0_1 y278) = some (r1, r2, r3, r4) := by first | (rw [hy278]; with_reducible exact H) | (have H2_ := (Option.bind_some _ _).symm.trans H; rw [hy278]; with_reducible exact H2_) | (have H2_ := (Option.bind_some _ _).symm.trans H; with_reducible exact H2_) | with_reducible exact H | (rw [hy278]; exact H) | exact H
       have Ny278 := As_ hy278
       clear hy278
       have H' := As_ H
       clear H
       try go_wp2_with (first | ((with_reducible refine gate_callee (f := 43) rfl ?_); refine goesL_ (some 37) rfl rfl Try.func43 (by kernel_rfl) rfl #[.int .i64 x9_2] rfl (by (try simp only [List.map_toArray, List.map_cons, List.map_nil]); first | done | rfl | (simp only [List.length_drop, List.length_take]; rfl)) ?_; (with_reducible refine (spec_pzNext.calls x9_2 t266 _ A31.out).mono ?_); rintro e w' ⟨rfl, ⟨nd, rfl⟩⟩; refine ⟨_, rfl, ?_⟩; (try (rw [drewN_self wr]; generalize hq_ : World.drewN wr _ = wr; have n0_ : Aside0 (Kd.R k42 42 wr w.heap.size (fun _ => True) u266002 x266002_2) := ⟨by rw [← hq_]; exact (by (with_reducible repeat (first | apply Kd.R_alloc | apply Kd.R_drewN | apply Kd.R_drew)); exact HO_266002.out)⟩; have n1_ : Aside0 (wr.heap[gb260]? = some (.cells #[.int .i64 a0_0, .int .i64 a0_1, .slice A0_2 l0_2.length c0_2] 31 (0, 0))) := ⟨by rw [← hq_]; exact BK260.out⟩; have n2_ : Aside0 (wr.heap[gb261]? = some (.cells #[.int .i64 0, .int .i64 0, .slice none 0 0] 47 (0, 0))) := ⟨by rw [← hq_]; exact BK261.out⟩; have n3_ : Aside0 (wr.heap[gb265]? = some (.cells #[.int .i64 a0_0, .int .i64 a0_1, u266002] 47 (0, 0))) := ⟨by rw [← hq_]; exact BK265.out⟩; have n4_ : Aside0 (Below w.heap.size w wr) := ⟨by rw [← hq_]; exact (by repeat (first | (with_reducible first | exact HB.out | apply ba_ | apply bn_ | apply bd_ | refine below_setA ?_ (by assumption)) | exact HB.out))⟩; clear HO_266002 BK260 BK261 BK265 HB hq_; have HO_266002 := n0_; have BK260 := n1_; have BK261 := n2_; have BK265 := n3_; have HB := n4_; clear n0_ n1_ n2_ n3_ n4_))) | ((with_reducible refine gate_callee (f := 44) rfl ?_); refine goesL_ (some 41) rfl rfl Try.func44 (by kernel_rfl) rfl #[.int .i64 (Int.tmod t266 6)] rfl (by (try simp only [List.map_toArray, List.map_cons, List.map_nil]); first | done | rfl | (simp only [List.length_drop, List.length_take]; rfl)) ?_; (with_reducible refine (spec_pzAlone.calls (Int.tmod t266 6) false _ A32.out).mono ?_); rintro e w' ⟨rfl, ⟨nd, rfl⟩⟩; refine ⟨_, rfl, ?_⟩; (try (rw [drewN_self wr]; generalize hq_ : World.drewN wr _ = wr; have n0_ : Aside0 (Kd.R k42 42 wr w.heap.size (fun _ => True) u266002 x266002_2) := ⟨by rw [← hq_]; exact (by (with_reducible repeat (first | apply Kd.R_alloc | apply Kd.R_drewN | apply Kd.R_drew)); exact HO_266002.out)⟩; have n1_ : Aside0 (wr.heap[gb260]? = some (.cells #[.int .i64 a0_0, .int .i64 a0_1, .slice A0_2 l0_2.length c0_2] 31 (0, 0))) := ⟨by rw [← hq_]; exact BK260.out⟩; have n2_ : Aside0 (wr.heap[gb261]? = some (.cells #[.int .i64 0, .int .i64 0, .slice none 0 0] 47 (0, 0))) := ⟨by rw [← hq_]; exact BK261.out⟩; have n3_ : Aside0 (wr.heap[gb265]? = some (.cells #[.int .i64 a0_0, .int .i64 a0_1, u266002] 47 (0, 0))) := ⟨by rw [← hq_]; exact BK265.out⟩; have n4_ : Aside0 (Below w.heap.size w wr) := ⟨by rw [← hq_]; exact (by repeat (first | (with_reducible first | exact HB.out | apply ba_ | apply bn_ | apply bd_ | refine below_setA ?_ (by assumption)) | exact HB.out))⟩; clear HO_266002 BK260 BK261 BK265 HB hq_; have HO_266002 := n0_; have BK260 := n1_; have BK261 := n2_; have BK265 := n3_; have HB := n4_; clear n0_ n1_ n2_ n3_ n4_))) | ((with_reducible refine gate_callee (f := 43) rfl ?_); refine goesL_ (some 44) rfl rfl Try.func43 (by kernel_rfl) rfl #[.int .i64 t266] rfl (by (try simp only [List.map_toArray, List.map_cons, List.map_nil]); first | done | rfl | (simp only [List.length_drop, List.length_take]; rfl)) ?_; (with_reducible refine (spec_pzNext.calls t266 t274 _ A41.out).mono ?_); rintro e w' ⟨rfl, ⟨nd, rfl⟩⟩; refine ⟨_, rfl, ?_⟩; (try (rw [drewN_self wr]; generalize hq_ : World.drewN wr _ = wr; have n0_ : Aside0 (Kd.R k42 42 wr w.heap.size (fun _ => True) u266002 x266002_2) := ⟨by rw [← hq_]; exact (by (with_reducible repeat (first | apply Kd.R_alloc | apply Kd.R_drewN | apply Kd.R_drew)); exact HO_266002.out)⟩; have n1_ : Aside0 (wr.heap[gb260]? = some (.cells #[.int .i64 a0_0, .int .i64 a0_1, .slice A0_2 l0_2.length c0_2] 31 (0, 0))) := ⟨by rw [← hq_]; exact BK260.out⟩; have n2_ : Aside0 (wr.heap[gb261]? = some (.cells #[.int .i64 0, .int .i64 0, .slice none 0 0] 47 (0, 0))) := ⟨by rw [← hq_]; exact BK261.out⟩; have n3_ : Aside0 (wr.heap[gb265]? = some (.cells #[.int .i64 a0_0, .int .i64 a0_1, u266002] 47 (0, 0))) := ⟨by rw [← hq_]; exact BK265.out⟩; have n4_ : Aside0 (Below w.heap.size w wr) := ⟨by rw [← hq_]; exact (by repeat (first | (with_reducible first | exact HB.out | apply ba_ | apply bn_ | apply bd_ | refine below_setA ?_ (by assumption)) | exact HB.out))⟩; clear HO_266002 BK260 BK261 BK265 HB hq_; have HO_266002 := n0_; have BK260 := n1_; have BK261 := n2_; have BK265 := n3_; have HB := n4_; clear n0_ n1_ n2_ n3_ n4_))))
       replace HO_266002 := As_ (Kd.R_drew HO_266002.out)
       replace BK260 := As_ (blk_drew BK260.out)
       replace BK261 := As_ (blk_drew BK261.out)
       replace BK265 := As_ (blk_drew BK265.out)
       replace HB := As_ (below_drew1 HB.out)
       refine start_ (n := 10) (S := fun w' => w'.cell? ⟨gb265, 0, none⟩ = some (.int .i64 a0_0) ∧ w'.cell? ⟨gb265, 1, none⟩ = some (.int .i64 a0_1) ∧ w'.cell? ⟨gb265, 2, none⟩ = some (u266002) ∧ w'.cell? ⟨gb260, 0, none⟩ = some (.int .i64 a0_0) ∧ w'.cell? ⟨gb260, 1, none⟩ = some (.int .i64 a0_1) ∧ w'.cell? ⟨gb260, 2, none⟩ = some (.slice A0_2 l0_2.length c0_2)) (ds := [9]) #[false, false, false, false, false, false, false, false, false, false] (by kernel_rfl) rfl rfl ⟨(blk_cell BK265.out 0).trans rfl, (blk_cell BK265.out 1).trans rfl, (blk_cell BK265.out 2).trans rfl, (blk_cell BK260.out 0).trans rfl, (blk_cell BK260.out 1).trans rfl, (blk_cell BK260.out 2).trans rfl⟩ (fun hHeld => ?_); refine with_tabW spec_MakePuzzle.tab17 spec_MakePuzzle.bits17 (fun HT_ HW_ => ?_)
       generalize wr.drew = w45 at HO_266002 BK260 BK261 BK265 HB hHeld ⊢
       refine pu_ (v := ?_) (a' := ?_) 0 (some 62) #[true, false, false, false, false, false, false, false, false, false] rfl rfl (any_of HT_.out (by kernel_rfl)) (fun _ _ _ h => h) (.inl ⟨by rfl, ?_⟩) ?_ ?_; rotate_left
       · intro w'; go_simp; with_reducible rfl
       rotate_left
       · simp only [Act.put, sib_, sc0_, sc1_, i64_w, i32_w]; rfl
       refine pu_ (v := ?_) (a' := ?_) 2 (some 64) #[true, false, true, false, false, false, false, false, false, false] rfl rfl (any_of HT_.out (by kernel_rfl)) (fun _ _ _ h => h) (.inl ⟨by rfl, ?_⟩) ?_ ?_; rotate_left
       · intro w'; go_simp; with_reducible rfl
       rotate_left
       · simp only [Act.put, sib_, sc0_, sc1_, i64_w, i32_w]; rfl
       refine pu_ (v := ?_) (a' := ?_) 3 (some 65) #[true, false, true, true, false, false, false, false, false, false] rfl rfl (any_of HT_.out (by kernel_rfl)) (fun _ _ _ h => h) (.inl ⟨by rfl, ?_⟩) ?_ ?_; rotate_left
       · intro w'; go_simp; with_reducible rfl
       rotate_left
       · simp only [Act.put, sib_, sc0_, sc1_, i64_w, i32_w]; rfl
       refine take_ (i := 1) (N := some 63) (v := ?_) (a' := ?_) #[true, true, true, true, false, false, false, false, false, false] rfl rfl (take_ofW HT_.out HW_.out (by kernel_rfl)) (fun _ _ _ h => h) (Or.inl ⟨by rfl, ?_⟩) hHeld ?_ ?_; rotate_left
       ·
        rintro w' ⟨s0, s1, s2, s3, s4, s5⟩
        go_simp
        with_reducible rfl
       rotate_left
       · simp only [Act.put, sib_, sc0_, sc1_, i64_w, i32_w]; rfl
       refine take_ (i := 4) (N := some 66) (v := ?_) (a' := ?_) #[true, true, true, true, true, false, false, false, false, false] rfl rfl (take_ofW HT_.out HW_.out (by kernel_rfl)) (fun _ _ _ h => h) (Or.inl ⟨by rfl, ?_⟩) hHeld ?_ ?_; rotate_left
       ·
        rintro w' ⟨s0, s1, s2, s3, s4, s5⟩
        go_simp
        with_reducible rfl
       rotate_left
       · simp only [Act.put, sib_, sc0_, sc1_, i64_w, i32_w]; rfl
       refine one_ (i := 5) (N := some 67) #[true, true, true, true, true, true, false, false, false, false] rfl rfl (one_of HT_.out (by kernel_rfl)) (by decide) (fun K hK => ?_)
       refine goes_ Try.func45 (by kernel_rfl) rfl #[.int .i64 (Int.tmod t266 6), .int .i64 (wrap64 ((Int.tmod t274 3) + 1)), .agg #[.int .i64 a0_0, .int .i64 a0_1, .slice A0_2 l0_2.length c0_2]] (by rfl) rfl rfl (by (try simp only [List.map_toArray, List.map_cons, List.map_nil]); first | done | rfl | (simp only [List.length_drop, List.length_take]; rfl)) ?_
       with_reducible refine (spec_pzOf.calls k2 (Int.tmod t266 6) (wrap64 ((Int.tmod t274 3) + 1)) a0_0 a0_1 _ _ l0_2 t275 t276 t277 _ ?side1 ?side2 A43.out).mono ?_
       (case side1 => repeat (first | exact (Kd.C_below HR0_2.out HB.out) | (with_reducible refine Kd.C_alloc ?_ _) | (with_reducible refine Kd.C_drewN ?_ _) | (with_reducible refine Kd.C_drew ?_)))
       (case side2 => exact HC0_2.out)
       rintro e w46 ⟨rfl, hb⟩
       refine ⟨_, rfl, ?_⟩
       replace HO_266002 := As_ (Kd.R_below (by (with_reducible repeat (first | apply Kd.R_alloc | apply Kd.R_drewN | apply Kd.R_drew)); exact HO_266002.out) hb)
       replace BK260 := As_ (blk_b hb BK260.out)
       replace BK261 := As_ (blk_b hb BK261.out)
       replace BK265 := As_ (blk_b hb BK265.out)
       replace HB := As_ (below_step (by repeat (first | (with_reducible first | exact HB.out | apply ba_ | apply bn_ | apply bd_ | refine below_setA ?_ (by assumption)) | exact HB.out)) hb)
       (try clear hb)
       (try clear hb2)
       (try clear hk)
       (try clear hi)
       refine hK.out _ _ ⟨(blk_cell BK265.out 0).trans rfl, (blk_cell BK265.out 1).trans rfl, (blk_cell BK265.out 2).trans rfl, (blk_cell BK260.out 0).trans rfl, (blk_cell BK260.out 1).trans rfl, (blk_cell BK260.out 2).trans rfl⟩ (fun hHeld => ?_); clear hK K
       refine norm_ (a' := ?_) ?_ ?_; rotate_left
       ·
        show Act.put _ (some 67) _ = _
        simp only [Act.put, sib_, sc0_, sc1_, i64_w, i32_w]
        rfl
       refine one_ (i := 6) (N := some 68) #[true, true, true, true, true, true, true, false, false, false] rfl rfl (one_of HT_.out (by kernel_rfl)) (by decide) (fun K hK => ?_)
       refine value_ (w1 := ?_) (v := ?_) (by rfl) rfl ?_ ?_
       rotate_left 2
       ·
        go_simp
        constructor
        · rfl
        · rfl
       refine hK.out _ _ ⟨(blk_cell (blk_alloc BK265.out _) 0).trans rfl, (blk_cell (blk_alloc BK265.out _) 1).trans rfl, (blk_cell (blk_alloc BK265.out _) 2).trans rfl, (blk_cell (blk_alloc BK260.out _) 0).trans rfl, (blk_cell (blk_alloc BK260.out _) 1).trans rfl, (blk_cell (blk_alloc BK260.out _) 2).trans rfl⟩ (fun hHeld => ?_); clear hK K
       refine norm_ (a' := ?_) ?_ ?_; rotate_left
       ·
        show Act.put _ (some 68) _ = _
        simp only [Act.put, sib_, sc0_, sc1_, i64_w, i32_w]
        rfl
       refine one_ (i := 7) (N := some 69) #[true, true, true, true, true, true, true, true, false, false] rfl rfl (one_of HT_.out (by kernel_rfl)) (by decide) (fun K hK => ?_)
       refine Kd.R_append_step k42 (w0 := w) w.heap.size (by rfl) (.tmp 63) (.tmp 68) 45 42 (.agg #[(.int .i64 0), (.int .i64 0), (.int .i64 0)]) 24 rfl Try.underlying45 info42 rfl (by decide) (by omega) u266002 x266002_2 (⟨t275, t276, t277⟩ : S42) [.int .i64 t275, .int .i64 t276, .int .i64 t277] (fun _ => True) (fun _ => False) rfl rfl ?aP (fun _ hk => hk.elim) ?aF ?aO ?aB ?aS ?aL ?_
       (case aP => exact k42_mkM _ _ _ (⟨t275, t276, t277⟩ : S42))
       (case aB => exact (by repeat (first | (with_reducible first | exact HB.out | apply ba_ | apply bn_ | apply bd_ | refine below_setA ?_ (by assumption)) | exact HB.out)))
       (case aF => exact (fun _ _ => trivial))
       (case aO => exact (by (with_reducible repeat (first | apply Kd.R_alloc | apply Kd.R_drewN | apply Kd.R_drew)); exact HO_266002.out))
       (case aS => exact (below_size (by repeat (first | (with_reducible first | exact HB.out | apply ba_ | apply bn_ | apply bd_ | refine below_setA ?_ (by assumption)) | exact HB.out))))
       (case aL => have := LMc44.out; omega)
       intro v279 w47 ho hb hg hat
       rw [← Ny278.out] at ho
       have n0_ := As_ (blk_grown (g := gb260) (o := .cells #[.int .i64 a0_0, .int .i64 a0_1, .slice A0_2 l0_2.length c0_2] 31 (0, 0)) BK260.out hg (Kd.R_ne HO_266002.out BK260.out (by decide)))
       have n1_ := As_ (blk_grown (g := gb261) (o := .cells #[.int .i64 0, .int .i64 0, .slice none 0 0] 47 (0, 0)) BK261.out hg (Kd.R_ne HO_266002.out BK261.out (by decide)))
       have n2_ := As_ (blk_grown (g := gb265) (o := .cells #[.int .i64 a0_0, .int .i64 a0_1, u266002] 47 (0, 0)) BK265.out hg (Kd.R_ne HO_266002.out BK265.out (by decide)))
       have n3_ := As_ (hb)
       have n4_ := As_ (ho)
       clear BK260; clear BK261; clear BK265; clear HB; clear HO_266002
       have BK260 := n0_
       have BK261 := n1_
       have BK265 := n2_
       have HB := n3_
       have HO280 := n4_
       clear n0_ n1_ n2_ n3_ n4_; clear ho hb hg hat
       obtain ⟨Ao48, co48, eo48⟩ := Kd.R_slice HO280.out
       (first | subst eo48 | (injection eo48 with f1_ f2_ f3_; have f4_ := f1_.symm; have f5_ := f3_.symm; clear f1_ f2_ f3_; subst f4_; subst f5_))
       refine hK.out _ _ ⟨(blk_cell BK265.out 0).trans rfl, (blk_cell BK265.out 1).trans rfl, (blk_cell BK265.out 2).trans rfl, (blk_cell BK260.out 0).trans rfl, (blk_cell BK260.out 1).trans rfl, (blk_cell BK260.out 2).trans rfl⟩ (fun hHeld => ?_); clear hK K
       refine norm_ (a' := ?_) ?_ ?_; rotate_left
       ·
        show Act.put _ (some 69) _ = _
        simp only [Act.put, sib_, sc0_, sc1_, i64_w, i32_w]
        rfl
       refine pu_ (v := ?_) (a' := ?_) 8 (some 70) #[true, true, true, true, true, true, true, true, true, false] rfl rfl (any_of HT_.out (by kernel_rfl)) (fun _ _ _ h => h) (.inl ⟨by rfl, ?_⟩) ?_ ?_; rotate_left
       · intro w'; go_simp; with_reducible rfl
       rotate_left
       · simp only [Act.put, sib_, sc0_, sc1_, i64_w, i32_w]; rfl
       refine last_ (i := 9) (N := none) #[true, true, true, true, true, true, true, true, true, true] rfl rfl (one_of HT_.out (by kernel_rfl)) (by decide) (fun K hK => ?_)
       have hs49 : w47.cell? ⟨gb265, 2, none⟩ = some (u266002) := (blk_cell BK265.out 2).trans rfl
       have hfs49 := blk_frozen BK265.out 2
       have hns49_0 := NB260_265.out
       have hns49_1 := NB261_265.out
       have hms49_0 := NB265_260.out
       have hms49_1 := NB265_261.out
       refine skip_ (w1 := ?_) (by rfl) rfl ?_ ?_; rotate_left
       ·
        go_simp
        rfl
       refine hK.out _ _ ?_; clear hK K
       refine done_ (done_of HT_.out (by kernel_rfl)) ?_
       try go_wp2
       go_roundg k2
       case measure => have := HJ3.out; have := HK2.out; omega
       case rel => exact ⟨(wrap64 (x1_2 - 1)), (t274), (y278), (.slice Ao48 y278.length co48), (by first | rfl | (simp; done) | (simp [*]; done)), (by first | rfl | (simp; done) | (simp [*]; done)), H', ⟨by have := HJ3.out; have := HK2.out; omega⟩, ⟨by (with_reducible repeat (first | apply Kd.R_alloc | apply Kd.R_drewN | apply Kd.R_drew)); exact Kd.R_mono (Kd.R_far (p := ⟨gb265, 2, none⟩) (Kd.R_types HO280.out BK265.out (by decide)) (fun _ hk => hk.2) (.slice Ao48 y278.length co48)) (fun _ hk => trivial)⟩, ⟨by (with_reducible repeat (first | refine kn_ ?_ _ | refine kd_ ?_ | refine ka_ ?_ _)); refine blk_far ?_ NB260_265.out _; (with_reducible repeat (first | refine kn_ ?_ _ | refine kd_ ?_ | refine ka_ ?_ _)); exact BK260.out⟩, ⟨by (with_reducible repeat (first | refine kn_ ?_ _ | refine kd_ ?_ | refine ka_ ?_ _)); refine blk_far ?_ NB261_265.out _; (with_reducible repeat (first | refine kn_ ?_ _ | refine kd_ ?_ | refine ka_ ?_ _)); exact BK261.out⟩, ⟨by (with_reducible repeat (first | refine kn_ ?_ _ | refine kd_ ?_ | refine ka_ ?_ _)); refine blk_put (cs := #[.int .i64 a0_0, .int .i64 a0_1, u266002]) ?_ 2 _ rfl; (with_reducible repeat (first | refine kn_ ?_ _ | refine kd_ ?_ | refine ka_ ?_ _)); exact BK265.out⟩, ⟨by repeat (first | (with_reducible first | exact HB.out | apply ba_ | apply bn_ | apply bd_ | refine below_setA ?_ (by assumption)) | exact HB.out)⟩⟩
      ·
       rw [if_neg c42] at H
       have c42b0 : ((Int.tmod t266 6) == 1) = false := beq_eq_false_iff_ne.mpr c42
       have c42b1 : ((Int.tmod t266 6) != 1) = true := bne_iff_ne.mpr c42
       by_cases c50 : (Int.tmod t266 6) = 2
       ·
        rw [if_pos c50] at H
        have c50b0 : ((Int.tmod t266 6) == 2) = true := beq_iff_eq.mpr c50
        have c50b1 : ((Int.tmod t266 6) != 2) = false := bne_eq_false_iff_eq.mpr c50
        clear c50
        by_cases c51 : (wrap64 (a0_0 * a0_1)) = 0
        · rw [if_pos c51] at H; exact absurd H (by simp)
        rw [if_neg c51] at H
        have c51b0 : ((wrap64 (a0_0 * a0_1)) == 0) = false := beq_eq_false_iff_ne.mpr c51
        have c51b1 : ((wrap64 (a0_0 * a0_1)) != 0) = true := bne_iff_ne.mpr c51
        replace H := Option.bind_eq_some_iff.mp H
        obtain ⟨⟨t281, t282, t283⟩, A520, H⟩ := H
        replace H : (if x266002_2.length < 5864062014805 then (spec_MakePuzzle.l0 k2 (wrap64 (x1_2 - 1)) t274 a0_0 a0_1 l0_2 a0_0 a0_1 (x266002_2 ++ [(⟨t281, t282, t283⟩ : S42)])) else (none)) = some (r1, r2, r3, r4) := H
        have A52 := As_ A520
        clear A520
        by_cases c53 : x266002_2.length < 5864062014805
        case neg => rw [if_neg c53] at H; exact absurd H (by simp)
        rw [if_pos c53] at H
        have LMc53 := As_ c53
        clear c53
        obtain ⟨y284, hy284⟩ : ∃ y_ : List (S42), y_ = (x266002_2 ++ [(⟨t281, t282, t283⟩ : S42)]) := ⟨_, rfl⟩
        replace H : (spec_MakePuzzle.l0 k2 (wrap64 (x1_2 - 1)) t274 a0_0 a0_1 l0_2 a0_0 a0_1 y284) = some (r1, r2, r3, r4) := by first | (rw [hy284]; with_reducible exact H) | (have H2_ := (Option.bind_some _ _).symm.trans H; rw [hy284]; with_reducible exact H2_) | (have H2_ := (Option.bind_some _ _).symm.trans H; with_reducible exact H2_) | with_reducible exact H | (rw [hy284]; exact H) | exact H
        have Ny284 := As_ hy284
        clear hy284
        have H' := As_ H
        clear H
        try go_wp2_with (first | ((with_reducible refine gate_callee (f := 43) rfl ?_); refine goesL_ (some 37) rfl rfl Try.func43 (by kernel_rfl) rfl #[.int .i64 x9_2] rfl (by (try simp only [List.map_toArray, List.map_cons, List.map_nil]); first | done | rfl | (simp only [List.length_drop, List.length_take]; rfl)) ?_; (with_reducible refine (spec_pzNext.calls x9_2 t266 _ A31.out).mono ?_); rintro e w' ⟨rfl, ⟨nd, rfl⟩⟩; refine ⟨_, rfl, ?_⟩; (try (rw [drewN_self wr]; generalize hq_ : World.drewN wr _ = wr; have n0_ : Aside0 (Kd.R k42 42 wr w.heap.size (fun _ => True) u266002 x266002_2) := ⟨by rw [← hq_]; exact (by (with_reducible repeat (first | apply Kd.R_alloc | apply Kd.R_drewN | apply Kd.R_drew)); exact HO_266002.out)⟩; have n1_ : Aside0 (wr.heap[gb260]? = some (.cells #[.int .i64 a0_0, .int .i64 a0_1, .slice A0_2 l0_2.length c0_2] 31 (0, 0))) := ⟨by rw [← hq_]; exact BK260.out⟩; have n2_ : Aside0 (wr.heap[gb261]? = some (.cells #[.int .i64 0, .int .i64 0, .slice none 0 0] 47 (0, 0))) := ⟨by rw [← hq_]; exact BK261.out⟩; have n3_ : Aside0 (wr.heap[gb265]? = some (.cells #[.int .i64 a0_0, .int .i64 a0_1, u266002] 47 (0, 0))) := ⟨by rw [← hq_]; exact BK265.out⟩; have n4_ : Aside0 (Below w.heap.size w wr) := ⟨by rw [← hq_]; exact (by repeat (first | (with_reducible first | exact HB.out | apply ba_ | apply bn_ | apply bd_ | refine below_setA ?_ (by assumption)) | exact HB.out))⟩; clear HO_266002 BK260 BK261 BK265 HB hq_; have HO_266002 := n0_; have BK260 := n1_; have BK261 := n2_; have BK265 := n3_; have HB := n4_; clear n0_ n1_ n2_ n3_ n4_))) | ((with_reducible refine gate_callee (f := 44) rfl ?_); refine goesL_ (some 41) rfl rfl Try.func44 (by kernel_rfl) rfl #[.int .i64 (Int.tmod t266 6)] rfl (by (try simp only [List.map_toArray, List.map_cons, List.map_nil]); first | done | rfl | (simp only [List.length_drop, List.length_take]; rfl)) ?_; (with_reducible refine (spec_pzAlone.calls (Int.tmod t266 6) false _ A32.out).mono ?_); rintro e w' ⟨rfl, ⟨nd, rfl⟩⟩; refine ⟨_, rfl, ?_⟩; (try (rw [drewN_self wr]; generalize hq_ : World.drewN wr _ = wr; have n0_ : Aside0 (Kd.R k42 42 wr w.heap.size (fun _ => True) u266002 x266002_2) := ⟨by rw [← hq_]; exact (by (with_reducible repeat (first | apply Kd.R_alloc | apply Kd.R_drewN | apply Kd.R_drew)); exact HO_266002.out)⟩; have n1_ : Aside0 (wr.heap[gb260]? = some (.cells #[.int .i64 a0_0, .int .i64 a0_1, .slice A0_2 l0_2.length c0_2] 31 (0, 0))) := ⟨by rw [← hq_]; exact BK260.out⟩; have n2_ : Aside0 (wr.heap[gb261]? = some (.cells #[.int .i64 0, .int .i64 0, .slice none 0 0] 47 (0, 0))) := ⟨by rw [← hq_]; exact BK261.out⟩; have n3_ : Aside0 (wr.heap[gb265]? = some (.cells #[.int .i64 a0_0, .int .i64 a0_1, u266002] 47 (0, 0))) := ⟨by rw [← hq_]; exact BK265.out⟩; have n4_ : Aside0 (Below w.heap.size w wr) := ⟨by rw [← hq_]; exact (by repeat (first | (with_reducible first | exact HB.out | apply ba_ | apply bn_ | apply bd_ | refine below_setA ?_ (by assumption)) | exact HB.out))⟩; clear HO_266002 BK260 BK261 BK265 HB hq_; have HO_266002 := n0_; have BK260 := n1_; have BK261 := n2_; have BK265 := n3_; have HB := n4_; clear n0_ n1_ n2_ n3_ n4_))) | ((with_reducible refine gate_callee (f := 43) rfl ?_); refine goesL_ (some 44) rfl rfl Try.func43 (by kernel_rfl) rfl #[.int .i64 t266] rfl (by (try simp only [List.map_toArray, List.map_cons, List.map_nil]); first | done | rfl | (simp only [List.length_drop, List.length_take]; rfl)) ?_; (with_reducible refine (spec_pzNext.calls t266 t274 _ A41.out).mono ?_); rintro e w' ⟨rfl, ⟨nd, rfl⟩⟩; refine ⟨_, rfl, ?_⟩; (try (rw [drewN_self wr]; generalize hq_ : World.drewN wr _ = wr; have n0_ : Aside0 (Kd.R k42 42 wr w.heap.size (fun _ => True) u266002 x266002_2) := ⟨by rw [← hq_]; exact (by (with_reducible repeat (first | apply Kd.R_alloc | apply Kd.R_drewN | apply Kd.R_drew)); exact HO_266002.out)⟩; have n1_ : Aside0 (wr.heap[gb260]? = some (.cells #[.int .i64 a0_0, .int .i64 a0_1, .slice A0_2 l0_2.length c0_2] 31 (0, 0))) := ⟨by rw [← hq_]; exact BK260.out⟩; have n2_ : Aside0 (wr.heap[gb261]? = some (.cells #[.int .i64 0, .int .i64 0, .slice none 0 0] 47 (0, 0))) := ⟨by rw [← hq_]; exact BK261.out⟩; have n3_ : Aside0 (wr.heap[gb265]? = some (.cells #[.int .i64 a0_0, .int .i64 a0_1, u266002] 47 (0, 0))) := ⟨by rw [← hq_]; exact BK265.out⟩; have n4_ : Aside0 (Below w.heap.size w wr) := ⟨by rw [← hq_]; exact (by repeat (first | (with_reducible first | exact HB.out | apply ba_ | apply bn_ | apply bd_ | refine below_setA ?_ (by assumption)) | exact HB.out))⟩; clear HO_266002 BK260 BK261 BK265 HB hq_; have HO_266002 := n0_; have BK260 := n1_; have BK261 := n2_; have BK265 := n3_; have HB := n4_; clear n0_ n1_ n2_ n3_ n4_)); have hnb54 := NB260_261.out; have hnc54 := NB261_260.out; have hnb55 := NB260_265.out; have hnc55 := NB265_260.out; obtain ⟨hcz56_0, hcz56_1, hcz56_2⟩ := c3_ (w := wr) BK260.out; obtain ⟨hfz56_0, hfz56_1, hfz56_2⟩ := z3_ BK260.out))
        replace HO_266002 := As_ (Kd.R_drew HO_266002.out)
        replace BK260 := As_ (blk_drew BK260.out)
        replace BK261 := As_ (blk_drew BK261.out)
        replace BK265 := As_ (blk_drew BK265.out)
        replace HB := As_ (below_drew1 HB.out)
        refine start_ (n := 10) (S := fun w' => w'.cell? ⟨gb265, 0, none⟩ = some (.int .i64 a0_0) ∧ w'.cell? ⟨gb265, 1, none⟩ = some (.int .i64 a0_1) ∧ w'.cell? ⟨gb265, 2, none⟩ = some (u266002) ∧ w'.cell? ⟨gb260, 0, none⟩ = some (.int .i64 a0_0) ∧ w'.cell? ⟨gb260, 1, none⟩ = some (.int .i64 a0_1) ∧ w'.cell? ⟨gb260, 2, none⟩ = some (.slice A0_2 l0_2.length c0_2)) (ds := [9]) #[false, false, false, false, false, false, false, false, false, false] (by kernel_rfl) rfl rfl ⟨(blk_cell BK265.out 0).trans rfl, (blk_cell BK265.out 1).trans rfl, (blk_cell BK265.out 2).trans rfl, (blk_cell BK260.out 0).trans rfl, (blk_cell BK260.out 1).trans rfl, (blk_cell BK260.out 2).trans rfl⟩ (fun hHeld => ?_); refine with_tabW spec_MakePuzzle.tab17 spec_MakePuzzle.bits17 (fun HT_ HW_ => ?_)
        generalize wr.drew = w57 at HO_266002 BK260 BK261 BK265 HB hHeld ⊢
        refine pu_ (v := ?_) (a' := ?_) 0 (some 62) #[true, false, false, false, false, false, false, false, false, false] rfl rfl (any_of HT_.out (by kernel_rfl)) (fun _ _ _ h => h) (.inl ⟨by rfl, ?_⟩) ?_ ?_; rotate_left
        · intro w'; go_simp; with_reducible rfl
        rotate_left
        · simp only [Act.put, sib_, sc0_, sc1_, i64_w, i32_w]; rfl
        refine pu_ (v := ?_) (a' := ?_) 2 (some 64) #[true, false, true, false, false, false, false, false, false, false] rfl rfl (any_of HT_.out (by kernel_rfl)) (fun _ _ _ h => h) (.inl ⟨by rfl, ?_⟩) ?_ ?_; rotate_left
        · intro w'; go_simp; with_reducible rfl
        rotate_left
        · simp only [Act.put, sib_, sc0_, sc1_, i64_w, i32_w]; rfl
        refine pu_ (v := ?_) (a' := ?_) 3 (some 65) #[true, false, true, true, false, false, false, false, false, false] rfl rfl (any_of HT_.out (by kernel_rfl)) (fun _ _ _ h => h) (.inl ⟨by rfl, ?_⟩) ?_ ?_; rotate_left
        · intro w'; go_simp; with_reducible rfl
        rotate_left
        · simp only [Act.put, sib_, sc0_, sc1_, i64_w, i32_w]; rfl
        refine take_ (i := 1) (N := some 63) (v := ?_) (a' := ?_) #[true, true, true, true, false, false, false, false, false, false] rfl rfl (take_ofW HT_.out HW_.out (by kernel_rfl)) (fun _ _ _ h => h) (Or.inl ⟨by rfl, ?_⟩) hHeld ?_ ?_; rotate_left
        ·
         rintro w' ⟨s0, s1, s2, s3, s4, s5⟩
         go_simp
         with_reducible rfl
        rotate_left
        · simp only [Act.put, sib_, sc0_, sc1_, i64_w, i32_w]; rfl
        refine take_ (i := 4) (N := some 66) (v := ?_) (a' := ?_) #[true, true, true, true, true, false, false, false, false, false] rfl rfl (take_ofW HT_.out HW_.out (by kernel_rfl)) (fun _ _ _ h => h) (Or.inl ⟨by rfl, ?_⟩) hHeld ?_ ?_; rotate_left
        ·
         rintro w' ⟨s0, s1, s2, s3, s4, s5⟩
         go_simp
         with_reducible rfl
        rotate_left
        · simp only [Act.put, sib_, sc0_, sc1_, i64_w, i32_w]; rfl
        refine one_ (i := 5) (N := some 67) #[true, true, true, true, true, true, false, false, false, false] rfl rfl (one_of HT_.out (by kernel_rfl)) (by decide) (fun K hK => ?_)
        refine goes_ Try.func45 (by kernel_rfl) rfl #[.int .i64 (Int.tmod t266 6), .int .i64 (Int.tmod t274 (wrap64 (a0_0 * a0_1))), .agg #[.int .i64 a0_0, .int .i64 a0_1, .slice A0_2 l0_2.length c0_2]] (by rfl) rfl rfl (by (try simp only [List.map_toArray, List.map_cons, List.map_nil]); first | done | rfl | (simp only [List.length_drop, List.length_take]; rfl)) ?_
        with_reducible refine (spec_pzOf.calls k2 (Int.tmod t266 6) (Int.tmod t274 (wrap64 (a0_0 * a0_1))) a0_0 a0_1 _ _ l0_2 t281 t282 t283 _ ?side1 ?side2 A52.out).mono ?_
        (case side1 => repeat (first | exact (Kd.C_below HR0_2.out HB.out) | (with_reducible refine Kd.C_alloc ?_ _) | (with_reducible refine Kd.C_drewN ?_ _) | (with_reducible refine Kd.C_drew ?_)))
        (case side2 => exact HC0_2.out)
        rintro e w58 ⟨rfl, hb⟩
        refine ⟨_, rfl, ?_⟩
        replace HO_266002 := As_ (Kd.R_below (by (with_reducible repeat (first | apply Kd.R_alloc | apply Kd.R_drewN | apply Kd.R_drew)); exact HO_266002.out) hb)
        replace BK260 := As_ (blk_b hb BK260.out)
        replace BK261 := As_ (blk_b hb BK261.out)
        replace BK265 := As_ (blk_b hb BK265.out)
        replace HB := As_ (below_step (by repeat (first | (with_reducible first | exact HB.out | apply ba_ | apply bn_ | apply bd_ | refine below_setA ?_ (by assumption)) | exact HB.out)) hb)
        (try clear hb)
        (try clear hb2)
        (try clear hk)
        (try clear hi)
        refine hK.out _ _ ⟨(blk_cell BK265.out 0).trans rfl, (blk_cell BK265.out 1).trans rfl, (blk_cell BK265.out 2).trans rfl, (blk_cell BK260.out 0).trans rfl, (blk_cell BK260.out 1).trans rfl, (blk_cell BK260.out 2).trans rfl⟩ (fun hHeld => ?_); clear hK K
        refine norm_ (a' := ?_) ?_ ?_; rotate_left
        ·
         show Act.put _ (some 67) _ = _
         simp only [Act.put, sib_, sc0_, sc1_, i64_w, i32_w]
         rfl
        refine one_ (i := 6) (N := some 68) #[true, true, true, true, true, true, true, false, false, false] rfl rfl (one_of HT_.out (by kernel_rfl)) (by decide) (fun K hK => ?_)
        refine value_ (w1 := ?_) (v := ?_) (by rfl) rfl ?_ ?_
        rotate_left 2
        ·
         go_simp
         constructor
         · rfl
         · rfl
        refine hK.out _ _ ⟨(blk_cell (blk_alloc BK265.out _) 0).trans rfl, (blk_cell (blk_alloc BK265.out _) 1).trans rfl, (blk_cell (blk_alloc BK265.out _) 2).trans rfl, (blk_cell (blk_alloc BK260.out _) 0).trans rfl, (blk_cell (blk_alloc BK260.out _) 1).trans rfl, (blk_cell (blk_alloc BK260.out _) 2).trans rfl⟩ (fun hHeld => ?_); clear hK K
        refine norm_ (a' := ?_) ?_ ?_; rotate_left
        ·
         show Act.put _ (some 68) _ = _
         simp only [Act.put, sib_, sc0_, sc1_, i64_w, i32_w]
         rfl
        refine one_ (i := 7) (N := some 69) #[true, true, true, true, true, true, true, true, false, false] rfl rfl (one_of HT_.out (by kernel_rfl)) (by decide) (fun K hK => ?_)
        refine Kd.R_append_step k42 (w0 := w) w.heap.size (by rfl) (.tmp 63) (.tmp 68) 45 42 (.agg #[(.int .i64 0), (.int .i64 0), (.int .i64 0)]) 24 rfl Try.underlying45 info42 rfl (by decide) (by omega) u266002 x266002_2 (⟨t281, t282, t283⟩ : S42) [.int .i64 t281, .int .i64 t282, .int .i64 t283] (fun _ => True) (fun _ => False) rfl rfl ?aP (fun _ hk => hk.elim) ?aF ?aO ?aB ?aS ?aL ?_
        (case aP => exact k42_mkM _ _ _ (⟨t281, t282, t283⟩ : S42))
        (case aB => exact (by repeat (first | (with_reducible first | exact HB.out | apply ba_ | apply bn_ | apply bd_ | refine below_setA ?_ (by assumption)) | exact HB.out)))
        (case aF => exact (fun _ _ => trivial))
        (case aO => exact (by (with_reducible repeat (first | apply Kd.R_alloc | apply Kd.R_drewN | apply Kd.R_drew)); exact HO_266002.out))
        (case aS => exact (below_size (by repeat (first | (with_reducible first | exact HB.out | apply ba_ | apply bn_ | apply bd_ | refine below_setA ?_ (by assumption)) | exact HB.out))))
        (case aL => have := LMc53.out; omega)
        intro v285 w59 ho hb hg hat
        rw [← Ny284.out] at ho
        have n0_ := As_ (blk_grown (g := gb260) (o := .cells #[.int .i64 a0_0, .int .i64 a0_1, .slice A0_2 l0_2.length c0_2] 31 (0, 0)) BK260.out hg (Kd.R_ne HO_266002.out BK260.out (by decide)))
        have n1_ := As_ (blk_grown (g := gb261) (o := .cells #[.int .i64 0, .int .i64 0, .slice none 0 0] 47 (0, 0)) BK261.out hg (Kd.R_ne HO_266002.out BK261.out (by decide)))
        have n2_ := As_ (blk_grown (g := gb265) (o := .cells #[.int .i64 a0_0, .int .i64 a0_1, u266002] 47 (0, 0)) BK265.out hg (Kd.R_ne HO_266002.out BK265.out (by decide)))
        have n3_ := As_ (hb)
        have n4_ := As_ (ho)
        clear BK260; clear BK261; clear BK265; clear HB; clear HO_266002
        have BK260 := n0_
        have BK261 := n1_
        have BK265 := n2_
        have HB := n3_
        have HO286 := n4_
        clear n0_ n1_ n2_ n3_ n4_; clear ho hb hg hat
        obtain ⟨Ao60, co60, eo60⟩ := Kd.R_slice HO286.out
        (first | subst eo60 | (injection eo60 with f1_ f2_ f3_; have f4_ := f1_.symm; have f5_ := f3_.symm; clear f1_ f2_ f3_; subst f4_; subst f5_))
        refine hK.out _ _ ⟨(blk_cell BK265.out 0).trans rfl, (blk_cell BK265.out 1).trans rfl, (blk_cell BK265.out 2).trans rfl, (blk_cell BK260.out 0).trans rfl, (blk_cell BK260.out 1).trans rfl, (blk_cell BK260.out 2).trans rfl⟩ (fun hHeld => ?_); clear hK K
        refine norm_ (a' := ?_) ?_ ?_; rotate_left
        ·
         show Act.put _ (some 69) _ = _
         simp only [Act.put, sib_, sc0_, sc1_, i64_w, i32_w]
         rfl
        refine pu_ (v := ?_) (a' := ?_) 8 (some 70) #[true, true, true, true, true, true, true, true, true, false] rfl rfl (any_of HT_.out (by kernel_rfl)) (fun _ _ _ h => h) (.inl ⟨by rfl, ?_⟩) ?_ ?_; rotate_left
        · intro w'; go_simp; with_reducible rfl
        rotate_left
        · simp only [Act.put, sib_, sc0_, sc1_, i64_w, i32_w]; rfl
        refine last_ (i := 9) (N := none) #[true, true, true, true, true, true, true, true, true, true] rfl rfl (one_of HT_.out (by kernel_rfl)) (by decide) (fun K hK => ?_)
        have hs61 : w59.cell? ⟨gb265, 2, none⟩ = some (u266002) := (blk_cell BK265.out 2).trans rfl
        have hfs61 := blk_frozen BK265.out 2
        have hns61_0 := NB260_265.out
        have hns61_1 := NB261_265.out
        have hms61_0 := NB265_260.out
        have hms61_1 := NB265_261.out
        refine skip_ (w1 := ?_) (by rfl) rfl ?_ ?_; rotate_left
        ·
         go_simp
         rfl
        refine hK.out _ _ ?_; clear hK K
        refine done_ (done_of HT_.out (by kernel_rfl)) ?_
        try go_wp2
        go_roundg k2
        case measure => have := HJ3.out; have := HK2.out; omega
        case rel => exact ⟨(wrap64 (x1_2 - 1)), (t274), (y284), (.slice Ao60 y284.length co60), (by first | rfl | (simp; done) | (simp [*]; done)), (by first | rfl | (simp; done) | (simp [*]; done)), H', ⟨by have := HJ3.out; have := HK2.out; omega⟩, ⟨by (with_reducible repeat (first | apply Kd.R_alloc | apply Kd.R_drewN | apply Kd.R_drew)); exact Kd.R_mono (Kd.R_far (p := ⟨gb265, 2, none⟩) (Kd.R_types HO286.out BK265.out (by decide)) (fun _ hk => hk.2) (.slice Ao60 y284.length co60)) (fun _ hk => trivial)⟩, ⟨by (with_reducible repeat (first | refine kn_ ?_ _ | refine kd_ ?_ | refine ka_ ?_ _)); refine blk_far ?_ NB260_265.out _; (with_reducible repeat (first | refine kn_ ?_ _ | refine kd_ ?_ | refine ka_ ?_ _)); exact BK260.out⟩, ⟨by (with_reducible repeat (first | refine kn_ ?_ _ | refine kd_ ?_ | refine ka_ ?_ _)); refine blk_far ?_ NB261_265.out _; (with_reducible repeat (first | refine kn_ ?_ _ | refine kd_ ?_ | refine ka_ ?_ _)); exact BK261.out⟩, ⟨by (with_reducible repeat (first | refine kn_ ?_ _ | refine kd_ ?_ | refine ka_ ?_ _)); refine blk_put (cs := #[.int .i64 a0_0, .int .i64 a0_1, u266002]) ?_ 2 _ rfl; (with_reducible repeat (first | refine kn_ ?_ _ | refine kd_ ?_ | refine ka_ ?_ _)); exact BK265.out⟩, ⟨by repeat (first | (with_reducible first | exact HB.out | apply ba_ | apply bn_ | apply bd_ | refine below_setA ?_ (by assumption)) | exact HB.out)⟩⟩
       ·
        rw [if_neg c50] at H
        have c50b0 : ((Int.tmod t266 6) == 2) = false := beq_eq_false_iff_ne.mpr c50
        have c50b1 : ((Int.tmod t266 6) != 2) = true := bne_iff_ne.mpr c50
        replace H := Option.bind_eq_some_iff.mp H
        obtain ⟨⟨t287, t288, t289⟩, A620, H⟩ := H
        replace H : (if x266002_2.length < 5864062014805 then (spec_MakePuzzle.l0 k2 (wrap64 (x1_2 - 1)) t274 a0_0 a0_1 l0_2 a0_0 a0_1 (x266002_2 ++ [(⟨t287, t288, t289⟩ : S42)])) else (none)) = some (r1, r2, r3, r4) := H
        have A62 := As_ A620
        clear A620
        by_cases c63 : x266002_2.length < 5864062014805
        case neg => rw [if_neg c63] at H; exact absurd H (by simp)
        rw [if_pos c63] at H
        have LMc63 := As_ c63
        clear c63
        obtain ⟨y290, hy290⟩ : ∃ y_ : List (S42), y_ = (x266002_2 ++ [(⟨t287, t288, t289⟩ : S42)]) := ⟨_, rfl⟩
        replace H : (spec_MakePuzzle.l0 k2 (wrap64 (x1_2 - 1)) t274 a0_0 a0_1 l0_2 a0_0 a0_1 y290) = some (r1, r2, r3, r4) := by first | (rw [hy290]; with_reducible exact H) | (have H2_ := (Option.bind_some _ _).symm.trans H; rw [hy290]; with_reducible exact H2_) | (have H2_ := (Option.bind_some _ _).symm.trans H; with_reducible exact H2_) | with_reducible exact H | (rw [hy290]; exact H) | exact H
        have Ny290 := As_ hy290
        clear hy290
        have H' := As_ H
        clear H
        try go_wp2_with (first | ((with_reducible refine gate_callee (f := 43) rfl ?_); refine goesL_ (some 37) rfl rfl Try.func43 (by kernel_rfl) rfl #[.int .i64 x9_2] rfl (by (try simp only [List.map_toArray, List.map_cons, List.map_nil]); first | done | rfl | (simp only [List.length_drop, List.length_take]; rfl)) ?_; (with_reducible refine (spec_pzNext.calls x9_2 t266 _ A31.out).mono ?_); rintro e w' ⟨rfl, ⟨nd, rfl⟩⟩; refine ⟨_, rfl, ?_⟩; (try (rw [drewN_self wr]; generalize hq_ : World.drewN wr _ = wr; have n0_ : Aside0 (Kd.R k42 42 wr w.heap.size (fun _ => True) u266002 x266002_2) := ⟨by rw [← hq_]; exact (by (with_reducible repeat (first | apply Kd.R_alloc | apply Kd.R_drewN | apply Kd.R_drew)); exact HO_266002.out)⟩; have n1_ : Aside0 (wr.heap[gb260]? = some (.cells #[.int .i64 a0_0, .int .i64 a0_1, .slice A0_2 l0_2.length c0_2] 31 (0, 0))) := ⟨by rw [← hq_]; exact BK260.out⟩; have n2_ : Aside0 (wr.heap[gb261]? = some (.cells #[.int .i64 0, .int .i64 0, .slice none 0 0] 47 (0, 0))) := ⟨by rw [← hq_]; exact BK261.out⟩; have n3_ : Aside0 (wr.heap[gb265]? = some (.cells #[.int .i64 a0_0, .int .i64 a0_1, u266002] 47 (0, 0))) := ⟨by rw [← hq_]; exact BK265.out⟩; have n4_ : Aside0 (Below w.heap.size w wr) := ⟨by rw [← hq_]; exact (by repeat (first | (with_reducible first | exact HB.out | apply ba_ | apply bn_ | apply bd_ | refine below_setA ?_ (by assumption)) | exact HB.out))⟩; clear HO_266002 BK260 BK261 BK265 HB hq_; have HO_266002 := n0_; have BK260 := n1_; have BK261 := n2_; have BK265 := n3_; have HB := n4_; clear n0_ n1_ n2_ n3_ n4_))) | ((with_reducible refine gate_callee (f := 44) rfl ?_); refine goesL_ (some 41) rfl rfl Try.func44 (by kernel_rfl) rfl #[.int .i64 (Int.tmod t266 6)] rfl (by (try simp only [List.map_toArray, List.map_cons, List.map_nil]); first | done | rfl | (simp only [List.length_drop, List.length_take]; rfl)) ?_; (with_reducible refine (spec_pzAlone.calls (Int.tmod t266 6) false _ A32.out).mono ?_); rintro e w' ⟨rfl, ⟨nd, rfl⟩⟩; refine ⟨_, rfl, ?_⟩; (try (rw [drewN_self wr]; generalize hq_ : World.drewN wr _ = wr; have n0_ : Aside0 (Kd.R k42 42 wr w.heap.size (fun _ => True) u266002 x266002_2) := ⟨by rw [← hq_]; exact (by (with_reducible repeat (first | apply Kd.R_alloc | apply Kd.R_drewN | apply Kd.R_drew)); exact HO_266002.out)⟩; have n1_ : Aside0 (wr.heap[gb260]? = some (.cells #[.int .i64 a0_0, .int .i64 a0_1, .slice A0_2 l0_2.length c0_2] 31 (0, 0))) := ⟨by rw [← hq_]; exact BK260.out⟩; have n2_ : Aside0 (wr.heap[gb261]? = some (.cells #[.int .i64 0, .int .i64 0, .slice none 0 0] 47 (0, 0))) := ⟨by rw [← hq_]; exact BK261.out⟩; have n3_ : Aside0 (wr.heap[gb265]? = some (.cells #[.int .i64 a0_0, .int .i64 a0_1, u266002] 47 (0, 0))) := ⟨by rw [← hq_]; exact BK265.out⟩; have n4_ : Aside0 (Below w.heap.size w wr) := ⟨by rw [← hq_]; exact (by repeat (first | (with_reducible first | exact HB.out | apply ba_ | apply bn_ | apply bd_ | refine below_setA ?_ (by assumption)) | exact HB.out))⟩; clear HO_266002 BK260 BK261 BK265 HB hq_; have HO_266002 := n0_; have BK260 := n1_; have BK261 := n2_; have BK265 := n3_; have HB := n4_; clear n0_ n1_ n2_ n3_ n4_))) | ((with_reducible refine gate_callee (f := 43) rfl ?_); refine goesL_ (some 44) rfl rfl Try.func43 (by kernel_rfl) rfl #[.int .i64 t266] rfl (by (try simp only [List.map_toArray, List.map_cons, List.map_nil]); first | done | rfl | (simp only [List.length_drop, List.length_take]; rfl)) ?_; (with_reducible refine (spec_pzNext.calls t266 t274 _ A41.out).mono ?_); rintro e w' ⟨rfl, ⟨nd, rfl⟩⟩; refine ⟨_, rfl, ?_⟩; (try (rw [drewN_self wr]; generalize hq_ : World.drewN wr _ = wr; have n0_ : Aside0 (Kd.R k42 42 wr w.heap.size (fun _ => True) u266002 x266002_2) := ⟨by rw [← hq_]; exact (by (with_reducible repeat (first | apply Kd.R_alloc | apply Kd.R_drewN | apply Kd.R_drew)); exact HO_266002.out)⟩; have n1_ : Aside0 (wr.heap[gb260]? = some (.cells #[.int .i64 a0_0, .int .i64 a0_1, .slice A0_2 l0_2.length c0_2] 31 (0, 0))) := ⟨by rw [← hq_]; exact BK260.out⟩; have n2_ : Aside0 (wr.heap[gb261]? = some (.cells #[.int .i64 0, .int .i64 0, .slice none 0 0] 47 (0, 0))) := ⟨by rw [← hq_]; exact BK261.out⟩; have n3_ : Aside0 (wr.heap[gb265]? = some (.cells #[.int .i64 a0_0, .int .i64 a0_1, u266002] 47 (0, 0))) := ⟨by rw [← hq_]; exact BK265.out⟩; have n4_ : Aside0 (Below w.heap.size w wr) := ⟨by rw [← hq_]; exact (by repeat (first | (with_reducible first | exact HB.out | apply ba_ | apply bn_ | apply bd_ | refine below_setA ?_ (by assumption)) | exact HB.out))⟩; clear HO_266002 BK260 BK261 BK265 HB hq_; have HO_266002 := n0_; have BK260 := n1_; have BK261 := n2_; have BK265 := n3_; have HB := n4_; clear n0_ n1_ n2_ n3_ n4_))))
        replace HO_266002 := As_ (Kd.R_drew HO_266002.out)
        replace BK260 := As_ (blk_drew BK260.out)
        replace BK261 := As_ (blk_drew BK261.out)
        replace BK265 := As_ (blk_drew BK265.out)
        replace HB := As_ (below_drew1 HB.out)
        refine start_ (n := 10) (S := fun w' => w'.cell? ⟨gb265, 0, none⟩ = some (.int .i64 a0_0) ∧ w'.cell? ⟨gb265, 1, none⟩ = some (.int .i64 a0_1) ∧ w'.cell? ⟨gb265, 2, none⟩ = some (u266002) ∧ w'.cell? ⟨gb260, 0, none⟩ = some (.int .i64 a0_0) ∧ w'.cell? ⟨gb260, 1, none⟩ = some (.int .i64 a0_1) ∧ w'.cell? ⟨gb260, 2, none⟩ = some (.slice A0_2 l0_2.length c0_2)) (ds := [9]) #[false, false, false, false, false, false, false, false, false, false] (by kernel_rfl) rfl rfl ⟨(blk_cell BK265.out 0).trans rfl, (blk_cell BK265.out 1).trans rfl, (blk_cell BK265.out 2).trans rfl, (blk_cell BK260.out 0).trans rfl, (blk_cell BK260.out 1).trans rfl, (blk_cell BK260.out 2).trans rfl⟩ (fun hHeld => ?_); refine with_tabW spec_MakePuzzle.tab17 spec_MakePuzzle.bits17 (fun HT_ HW_ => ?_)
        generalize wr.drew = w64 at HO_266002 BK260 BK261 BK265 HB hHeld ⊢
        refine pu_ (v := ?_) (a' := ?_) 0 (some 62) #[true, false, false, false, false, false, false, false, false, false] rfl rfl (any_of HT_.out (by kernel_rfl)) (fun _ _ _ h => h) (.inl ⟨by rfl, ?_⟩) ?_ ?_; rotate_left
        · intro w'; go_simp; with_reducible rfl
        rotate_left
        · simp only [Act.put, sib_, sc0_, sc1_, i64_w, i32_w]; rfl
        refine pu_ (v := ?_) (a' := ?_) 2 (some 64) #[true, false, true, false, false, false, false, false, false, false] rfl rfl (any_of HT_.out (by kernel_rfl)) (fun _ _ _ h => h) (.inl ⟨by rfl, ?_⟩) ?_ ?_; rotate_left
        · intro w'; go_simp; with_reducible rfl
        rotate_left
        · simp only [Act.put, sib_, sc0_, sc1_, i64_w, i32_w]; rfl
        refine pu_ (v := ?_) (a' := ?_) 3 (some 65) #[true, false, true, true, false, false, false, false, false, false] rfl rfl (any_of HT_.out (by kernel_rfl)) (fun _ _ _ h => h) (.inl ⟨by rfl, ?_⟩) ?_ ?_; rotate_left
        · intro w'; go_simp; with_reducible rfl
        rotate_left
        · simp only [Act.put, sib_, sc0_, sc1_, i64_w, i32_w]; rfl
        refine take_ (i := 1) (N := some 63) (v := ?_) (a' := ?_) #[true, true, true, true, false, false, false, false, false, false] rfl rfl (take_ofW HT_.out HW_.out (by kernel_rfl)) (fun _ _ _ h => h) (Or.inl ⟨by rfl, ?_⟩) hHeld ?_ ?_; rotate_left
        ·
         rintro w' ⟨s0, s1, s2, s3, s4, s5⟩
         go_simp
         with_reducible rfl
        rotate_left
        · simp only [Act.put, sib_, sc0_, sc1_, i64_w, i32_w]; rfl
        refine take_ (i := 4) (N := some 66) (v := ?_) (a' := ?_) #[true, true, true, true, true, false, false, false, false, false] rfl rfl (take_ofW HT_.out HW_.out (by kernel_rfl)) (fun _ _ _ h => h) (Or.inl ⟨by rfl, ?_⟩) hHeld ?_ ?_; rotate_left
        ·
         rintro w' ⟨s0, s1, s2, s3, s4, s5⟩
         go_simp
         with_reducible rfl
        rotate_left
        · simp only [Act.put, sib_, sc0_, sc1_, i64_w, i32_w]; rfl
        refine one_ (i := 5) (N := some 67) #[true, true, true, true, true, true, false, false, false, false] rfl rfl (one_of HT_.out (by kernel_rfl)) (by decide) (fun K hK => ?_)
        refine goes_ Try.func45 (by kernel_rfl) rfl #[.int .i64 (Int.tmod t266 6), .int .i64 (Int.tmod t274 4), .agg #[.int .i64 a0_0, .int .i64 a0_1, .slice A0_2 l0_2.length c0_2]] (by rfl) rfl rfl (by (try simp only [List.map_toArray, List.map_cons, List.map_nil]); first | done | rfl | (simp only [List.length_drop, List.length_take]; rfl)) ?_
        with_reducible refine (spec_pzOf.calls k2 (Int.tmod t266 6) (Int.tmod t274 4) a0_0 a0_1 _ _ l0_2 t287 t288 t289 _ ?side1 ?side2 A62.out).mono ?_
        (case side1 => repeat (first | exact (Kd.C_below HR0_2.out HB.out) | (with_reducible refine Kd.C_alloc ?_ _) | (with_reducible refine Kd.C_drewN ?_ _) | (with_reducible refine Kd.C_drew ?_)))
        (case side2 => exact HC0_2.out)
        rintro e w65 ⟨rfl, hb⟩
        refine ⟨_, rfl, ?_⟩
        replace HO_266002 := As_ (Kd.R_below (by (with_reducible repeat (first | apply Kd.R_alloc | apply Kd.R_drewN | apply Kd.R_drew)); exact HO_266002.out) hb)
        replace BK260 := As_ (blk_b hb BK260.out)
        replace BK261 := As_ (blk_b hb BK261.out)
        replace BK265 := As_ (blk_b hb BK265.out)
        replace HB := As_ (below_step (by repeat (first | (with_reducible first | exact HB.out | apply ba_ | apply bn_ | apply bd_ | refine below_setA ?_ (by assumption)) | exact HB.out)) hb)
        (try clear hb)
        (try clear hb2)
        (try clear hk)
        (try clear hi)
        refine hK.out _ _ ⟨(blk_cell BK265.out 0).trans rfl, (blk_cell BK265.out 1).trans rfl, (blk_cell BK265.out 2).trans rfl, (blk_cell BK260.out 0).trans rfl, (blk_cell BK260.out 1).trans rfl, (blk_cell BK260.out 2).trans rfl⟩ (fun hHeld => ?_); clear hK K
        refine norm_ (a' := ?_) ?_ ?_; rotate_left
        ·
         show Act.put _ (some 67) _ = _
         simp only [Act.put, sib_, sc0_, sc1_, i64_w, i32_w]
         rfl
        refine one_ (i := 6) (N := some 68) #[true, true, true, true, true, true, true, false, false, false] rfl rfl (one_of HT_.out (by kernel_rfl)) (by decide) (fun K hK => ?_)
        refine value_ (w1 := ?_) (v := ?_) (by rfl) rfl ?_ ?_
        rotate_left 2
        ·
         go_simp
         constructor
         · rfl
         · rfl
        refine hK.out _ _ ⟨(blk_cell (blk_alloc BK265.out _) 0).trans rfl, (blk_cell (blk_alloc BK265.out _) 1).trans rfl, (blk_cell (blk_alloc BK265.out _) 2).trans rfl, (blk_cell (blk_alloc BK260.out _) 0).trans rfl, (blk_cell (blk_alloc BK260.out _) 1).trans rfl, (blk_cell (blk_alloc BK260.out _) 2).trans rfl⟩ (fun hHeld => ?_); clear hK K
        refine norm_ (a' := ?_) ?_ ?_; rotate_left
        ·
         show Act.put _ (some 68) _ = _
         simp only [Act.put, sib_, sc0_, sc1_, i64_w, i32_w]
         rfl
        refine one_ (i := 7) (N := some 69) #[true, true, true, true, true, true, true, true, false, false] rfl rfl (one_of HT_.out (by kernel_rfl)) (by decide) (fun K hK => ?_)
        refine Kd.R_append_step k42 (w0 := w) w.heap.size (by rfl) (.tmp 63) (.tmp 68) 45 42 (.agg #[(.int .i64 0), (.int .i64 0), (.int .i64 0)]) 24 rfl Try.underlying45 info42 rfl (by decide) (by omega) u266002 x266002_2 (⟨t287, t288, t289⟩ : S42) [.int .i64 t287, .int .i64 t288, .int .i64 t289] (fun _ => True) (fun _ => False) rfl rfl ?aP (fun _ hk => hk.elim) ?aF ?aO ?aB ?aS ?aL ?_
        (case aP => exact k42_mkM _ _ _ (⟨t287, t288, t289⟩ : S42))
        (case aB => exact (by repeat (first | (with_reducible first | exact HB.out | apply ba_ | apply bn_ | apply bd_ | refine below_setA ?_ (by assumption)) | exact HB.out)))
        (case aF => exact (fun _ _ => trivial))
        (case aO => exact (by (with_reducible repeat (first | apply Kd.R_alloc | apply Kd.R_drewN | apply Kd.R_drew)); exact HO_266002.out))
        (case aS => exact (below_size (by repeat (first | (with_reducible first | exact HB.out | apply ba_ | apply bn_ | apply bd_ | refine below_setA ?_ (by assumption)) | exact HB.out))))
        (case aL => have := LMc63.out; omega)
        intro v291 w66 ho hb hg hat
        rw [← Ny290.out] at ho
        have n0_ := As_ (blk_grown (g := gb260) (o := .cells #[.int .i64 a0_0, .int .i64 a0_1, .slice A0_2 l0_2.length c0_2] 31 (0, 0)) BK260.out hg (Kd.R_ne HO_266002.out BK260.out (by decide)))
        have n1_ := As_ (blk_grown (g := gb261) (o := .cells #[.int .i64 0, .int .i64 0, .slice none 0 0] 47 (0, 0)) BK261.out hg (Kd.R_ne HO_266002.out BK261.out (by decide)))
        have n2_ := As_ (blk_grown (g := gb265) (o := .cells #[.int .i64 a0_0, .int .i64 a0_1, u266002] 47 (0, 0)) BK265.out hg (Kd.R_ne HO_266002.out BK265.out (by decide)))
        have n3_ := As_ (hb)
        have n4_ := As_ (ho)
        clear BK260; clear BK261; clear BK265; clear HB; clear HO_266002
        have BK260 := n0_
        have BK261 := n1_
        have BK265 := n2_
        have HB := n3_
        have HO292 := n4_
        clear n0_ n1_ n2_ n3_ n4_; clear ho hb hg hat
        obtain ⟨Ao67, co67, eo67⟩ := Kd.R_slice HO292.out
        (first | subst eo67 | (injection eo67 with f1_ f2_ f3_; have f4_ := f1_.symm; have f5_ := f3_.symm; clear f1_ f2_ f3_; subst f4_; subst f5_))
        refine hK.out _ _ ⟨(blk_cell BK265.out 0).trans rfl, (blk_cell BK265.out 1).trans rfl, (blk_cell BK265.out 2).trans rfl, (blk_cell BK260.out 0).trans rfl, (blk_cell BK260.out 1).trans rfl, (blk_cell BK260.out 2).trans rfl⟩ (fun hHeld => ?_); clear hK K
        refine norm_ (a' := ?_) ?_ ?_; rotate_left
        ·
         show Act.put _ (some 69) _ = _
         simp only [Act.put, sib_, sc0_, sc1_, i64_w, i32_w]
         rfl
        refine pu_ (v := ?_) (a' := ?_) 8 (some 70) #[true, true, true, true, true, true, true, true, true, false] rfl rfl (any_of HT_.out (by kernel_rfl)) (fun _ _ _ h => h) (.inl ⟨by rfl, ?_⟩) ?_ ?_; rotate_left
        · intro w'; go_simp; with_reducible rfl
        rotate_left
        · simp only [Act.put, sib_, sc0_, sc1_, i64_w, i32_w]; rfl
        refine last_ (i := 9) (N := none) #[true, true, true, true, true, true, true, true, true, true] rfl rfl (one_of HT_.out (by kernel_rfl)) (by decide) (fun K hK => ?_)
        have hs68 : w66.cell? ⟨gb265, 2, none⟩ = some (u266002) := (blk_cell BK265.out 2).trans rfl
        have hfs68 := blk_frozen BK265.out 2
        have hns68_0 := NB260_265.out
        have hns68_1 := NB261_265.out
        have hms68_0 := NB265_260.out
        have hms68_1 := NB265_261.out
        refine skip_ (w1 := ?_) (by rfl) rfl ?_ ?_; rotate_left
        ·
         go_simp
         rfl
        refine hK.out _ _ ?_; clear hK K
        refine done_ (done_of HT_.out (by kernel_rfl)) ?_
        try go_wp2
        go_roundg k2
        case measure => have := HJ3.out; have := HK2.out; omega
        case rel => exact ⟨(wrap64 (x1_2 - 1)), (t274), (y290), (.slice Ao67 y290.length co67), (by first | rfl | (simp; done) | (simp [*]; done)), (by first | rfl | (simp; done) | (simp [*]; done)), H', ⟨by have := HJ3.out; have := HK2.out; omega⟩, ⟨by (with_reducible repeat (first | apply Kd.R_alloc | apply Kd.R_drewN | apply Kd.R_drew)); exact Kd.R_mono (Kd.R_far (p := ⟨gb265, 2, none⟩) (Kd.R_types HO292.out BK265.out (by decide)) (fun _ hk => hk.2) (.slice Ao67 y290.length co67)) (fun _ hk => trivial)⟩, ⟨by (with_reducible repeat (first | refine kn_ ?_ _ | refine kd_ ?_ | refine ka_ ?_ _)); refine blk_far ?_ NB260_265.out _; (with_reducible repeat (first | refine kn_ ?_ _ | refine kd_ ?_ | refine ka_ ?_ _)); exact BK260.out⟩, ⟨by (with_reducible repeat (first | refine kn_ ?_ _ | refine kd_ ?_ | refine ka_ ?_ _)); refine blk_far ?_ NB261_265.out _; (with_reducible repeat (first | refine kn_ ?_ _ | refine kd_ ?_ | refine ka_ ?_ _)); exact BK261.out⟩, ⟨by (with_reducible repeat (first | refine kn_ ?_ _ | refine kd_ ?_ | refine ka_ ?_ _)); refine blk_put (cs := #[.int .i64 a0_0, .int .i64 a0_1, u266002]) ?_ 2 _ rfl; (with_reducible repeat (first | refine kn_ ?_ _ | refine kd_ ?_ | refine ka_ ?_ _)); exact BK265.out⟩, ⟨by repeat (first | (with_reducible first | exact HB.out | apply ba_ | apply bn_ | apply bd_ | refine below_setA ?_ (by assumption)) | exact HB.out)⟩⟩
    ·
     rw [if_neg c30] at H
     have c30b0 : decide (0 < x1_2) = false := decide_eq_false c30
     clear c30
     simp only [Option.some.injEq, Prod.mk.injEq] at H
     obtain ⟨rfl, rfl, rfl, rfl⟩ := H
     have hnb69 := NB265_260.out
     have hnc69 := NB260_265.out
     have hnb70 := NB265_261.out
     have hnc70 := NB261_265.out
     obtain ⟨hcz71_0, hcz71_1, hcz71_2⟩ := c3_ (w := wr) BK265.out
     obtain ⟨hfz71_0, hfz71_1, hfz71_2⟩ := z3_ BK265.out
     have hnb72 := NB261_260.out
     have hnc72 := NB260_261.out
     obtain ⟨hcz73_0, hcz73_1, hcz73_2⟩ := c3_ (w := wr) BK261.out
     obtain ⟨hfz73_0, hfz73_1, hfz73_2⟩ := z3_ BK261.out
     obtain ⟨Ao74, co74, eo74⟩ := Kd.R_slice HO_266002.out
     subst eo74
     go_wp2
     refine bodyPost_ret (results_ct rfl _ _ gb261 47 #[.int .i64 a0_0, .int .i64 a0_1, .slice Ao74 x266002_2.length co74] (0, 0) _ rfl (by (with_reducible repeat (first | refine kn_ ?_ _ | refine kd_ ?_ | refine ka_ ?_ _)); refine blk_put (cs := #[.int .i64 a0_0, .int .i64 a0_1, .slice none 0 0]) ?_ 2 _ rfl; refine blk_put (cs := #[.int .i64 a0_0, .int .i64 0, .slice none 0 0]) ?_ 1 _ rfl; refine blk_put (cs := #[.int .i64 0, .int .i64 0, .slice none 0 0]) ?_ 0 _ rfl; (with_reducible repeat (first | refine kn_ ?_ _ | refine kd_ ?_ | refine ka_ ?_ _)); exact BK261.out) Try.underlying47 rfl (by kernel_rfl)) rfl ?_
     exact ⟨_, by first | rfl | (simp <;> rfl) | (simp [*] <;> rfl), by (with_reducible repeat (first | apply Kd.R_alloc | apply Kd.R_drewN | apply Kd.R_drew)); exact Kd.R_mono (Kd.R_far (p := ⟨gb261, 2, none⟩) (Kd.R_far (p := ⟨gb261, 1, none⟩) (Kd.R_far (p := ⟨gb261, 0, none⟩) (Kd.R_types HO_266002.out BK261.out (by decide)) (fun _ hk => hk.2) (.int .i64 a0_0)) (fun _ hk => hk.2) (.int .i64 a0_1)) (fun _ hk => hk.2) (.slice Ao74 x266002_2.length co74)) (fun _ hk => trivial), by repeat (first | (with_reducible first | exact HB.out | apply ba_ | apply bn_ | apply bd_ | refine below_setA ?_ (by assumption)) | exact HB.out)⟩

end Go.Proofs.Ytipiaiolhhnnhaa.PFnExactMakePuzzle
