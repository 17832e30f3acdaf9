-- Written by a program of this session (wip/tools/pg.py) out of the translation.
import Derived.Test.YtipiaiolhhnnhaaPFnExactMakePuzzlex0
import Derived.Test.YtipiaiolhhnnhaaPFnExactMakePuzzlex2
namespace Go.Proofs.Ytipiaiolhhnnhaa.PFnExactMakePuzzle
open Go.RowKit Go.Proofs.YtipiaiolhhnnhaaW.PrintWords Go.Proofs.YtipiaiolhhnnhaaW.PrintLast Go.Proofs.YtipiaiolhhnnhaaW.PrintMore Go.Proofs.YtipiaiolhhnnhaaH
attribute [local go_sem] max2_int min2_int max_two min_two max_three min_three max_four min_four   -- for this text's walks alone
set_option linter.unusedVariables false
set_option linter.unusedSimpArgs false

/-! ### spec_cuGood: function 59 -/
mutual
def spec_cuGood.j0 : Nat → Bool → Int → Int → List (S87) → Option (Bool)
 | 0, _, _, _, _ => none
 | k + 1, x24, x137000, x137001, x137002 => if x24 = true then (some false) else (spec_cuGood.l0 k 0 x137002 (x137002.length : Int) 0 x137000 x137001 x137002)
def spec_cuGood.l0 : Nat → Int → List (S87) → Int → Int → Int → Int → List (S87) → Option (Bool)
 | 0, _, _, _, _, _, _, _ => none
 | k + 1, x3, x26, x27, x28, x137000, x137001, x137002 => if x28 < x27 then (if 0 ≤ x28 then (if x28 < (x26.length : Int) then ((spec_l1In.f ((rd_T87 x26 x28).f2) 1 500).bind fun t142 => (if t142 = true then ((spec_l1In.f ((rd_T87 x26 x28).f0) 0 (wrap64 (x137000 - ((rd_T87 x26 x28).f2)))).bind fun t143 => (if t143 = true then ((spec_l1In.f ((rd_T87 x26 x28).f1) 0 (wrap64 (x137001 - ((rd_T87 x26 x28).f2)))).bind fun t144 => (spec_cuGood.j2 k x3 x28 x26 x27 x28 (!t144) x137000 x137001 x137002 ((rd_T87 x26 x28).f0) ((rd_T87 x26 x28).f1) ((rd_T87 x26 x28).f2))) else (spec_cuGood.j2 k x3 x28 x26 x27 x28 true x137000 x137001 x137002 ((rd_T87 x26 x28).f0) ((rd_T87 x26 x28).f1) ((rd_T87 x26 x28).f2)))) else (spec_cuGood.j2 k x3 x28 x26 x27 x28 true x137000 x137001 x137002 ((rd_T87 x26 x28).f0) ((rd_T87 x26 x28).f1) ((rd_T87 x26 x28).f2)))) else (none)) else (none)) else (some (x3 == (wrap64 (x137000 * x137001))))
def spec_cuGood.j2 : Nat → Int → Int → List (S87) → Int → Int → Bool → Int → Int → List (S87) → Int → Int → Int → Option (Bool)
 | 0, _, _, _, _, _, _, _, _, _, _, _, _ => none
 | k + 1, x3, x4, x26, x27, x28, x58, x137000, x137001, x137002, x142000, x142001, x142002 => if x58 = true then (some false) else (if 0 ≤ x4 then (if x4 ≤ (x137002.length : Int) then ((some (x137002.take (x4 : Int).toNat : List (S87))).bind fun y145 => (spec_cuGood.l1 k (wrap64 (x3 + (wrap64 (x142002 * x142002)))) x4 x26 x27 x28 y145 (y145.length : Int) 0 x137000 x137001 x137002 x142000 x142001 x142002)) else (none)) else (none))
def spec_cuGood.l1 : Nat → Int → Int → List (S87) → Int → Int → List (S87) → Int → Int → Int → Int → List (S87) → Int → Int → Int → Option (Bool)
 | 0, _, _, _, _, _, _, _, _, _, _, _, _, _, _ => none
 | k + 1, x3, x4, x26, x27, x28, x69, x70, x71, x137000, x137001, x137002, x142000, x142001, x142002 => if x71 < x70 then (if 0 ≤ x71 then (if x71 < (x69.length : Int) then (if x142000 < (wrap64 (((rd_T87 x69 x71).f0) + ((rd_T87 x69 x71).f2))) then (if ((rd_T87 x69 x71).f0) < (wrap64 (x142000 + x142002)) then (if x142001 < (wrap64 (((rd_T87 x69 x71).f1) + ((rd_T87 x69 x71).f2))) then (spec_cuGood.j4 k x3 x4 x71 x26 x27 x28 x69 x70 x71 (decide (((rd_T87 x69 x71).f1) < (wrap64 (x142001 + x142002)))) x137000 x137001 x137002 x142000 x142001 x142002 ((rd_T87 x69 x71).f0) ((rd_T87 x69 x71).f1) ((rd_T87 x69 x71).f2)) else (spec_cuGood.j4 k x3 x4 x71 x26 x27 x28 x69 x70 x71 false x137000 x137001 x137002 x142000 x142001 x142002 ((rd_T87 x69 x71).f0) ((rd_T87 x69 x71).f1) ((rd_T87 x69 x71).f2))) else (spec_cuGood.j4 k x3 x4 x71 x26 x27 x28 x69 x70 x71 false x137000 x137001 x137002 x142000 x142001 x142002 ((rd_T87 x69 x71).f0) ((rd_T87 x69 x71).f1) ((rd_T87 x69 x71).f2))) else (spec_cuGood.j4 k x3 x4 x71 x26 x27 x28 x69 x70 x71 false x137000 x137001 x137002 x142000 x142001 x142002 ((rd_T87 x69 x71).f0) ((rd_T87 x69 x71).f1) ((rd_T87 x69 x71).f2))) else (none)) else (none)) else (spec_cuGood.l0 k x3 x26 x27 (wrap64 (x28 + 1)) x137000 x137001 x137002)
def spec_cuGood.j4 : Nat → Int → Int → Int → List (S87) → Int → Int → List (S87) → Int → Int → Bool → Int → Int → List (S87) → Int → Int → Int → Int → Int → Int → Option (Bool)
 | 0, _, _, _, _, _, _, _, _, _, _, _, _, _, _, _, _, _, _, _ => none
 | k + 1, x3, x4, x6, x26, x27, x28, x69, x70, x71, x113, x137000, x137001, x137002, x142000, x142001, x142002, x151000, x151001, x151002 => if x113 = true then (some false) else (if x6 = (wrap64 (x4 - 1)) then ((spec_cuLess.f x151000 x151001 x151002 x142000 x142001 x142002).bind fun t151 => (if t151 = true then (spec_cuGood.l1 k x3 x4 x26 x27 x28 x69 x70 (wrap64 (x71 + 1)) x137000 x137001 x137002 x142000 x142001 x142002) else (some false))) else (spec_cuGood.l1 k x3 x4 x26 x27 x28 x69 x70 (wrap64 (x71 + 1)) x137000 x137001 x137002 x142000 x142001 x142002))
end
def spec_cuGood.f (k : Nat) (a0_0 : Int) (a0_1 : Int) (l0_2 : List (S87)) : Option (Bool) := (spec_l1In.f a0_0 1 500).bind fun t137 => (if t137 = true then ((spec_l1In.f a0_1 1 500).bind fun t138 => (if t138 = true then ((spec_l1In.f (l0_2.length : Int) 1 30).bind fun t139 => (spec_cuGood.j0 k (!t139) a0_0 a0_1 l0_2)) else (spec_cuGood.j0 k true a0_0 a0_1 l0_2))) else (spec_cuGood.j0 k true a0_0 a0_1 l0_2))
theorem spec_cuGood.mono_l : ∀ k, (∀ y0 y1 y2 y3, LeO (spec_cuGood.j0 k y0 y1 y2 y3) (spec_cuGood.j0 (k + 1) y0 y1 y2 y3)) ∧ (∀ y0 y1 y2 y3 y4 y5 y6, LeO (spec_cuGood.l0 k y0 y1 y2 y3 y4 y5 y6) (spec_cuGood.l0 (k + 1) y0 y1 y2 y3 y4 y5 y6)) ∧ (∀ y0 y1 y2 y3 y4 y5 y6 y7 y8 y9 y10 y11, LeO (spec_cuGood.j2 k y0 y1 y2 y3 y4 y5 y6 y7 y8 y9 y10 y11) (spec_cuGood.j2 (k + 1) y0 y1 y2 y3 y4 y5 y6 y7 y8 y9 y10 y11)) ∧ (∀ y0 y1 y2 y3 y4 y5 y6 y7 y8 y9 y10 y11 y12 y13, LeO (spec_cuGood.l1 k y0 y1 y2 y3 y4 y5 y6 y7 y8 y9 y10 y11 y12 y13) (spec_cuGood.l1 (k + 1) y0 y1 y2 y3 y4 y5 y6 y7 y8 y9 y10 y11 y12 y13)) ∧ (∀ y0 y1 y2 y3 y4 y5 y6 y7 y8 y9 y10 y11 y12 y13 y14 y15 y16 y17 y18, LeO (spec_cuGood.j4 k y0 y1 y2 y3 y4 y5 y6 y7 y8 y9 y10 y11 y12 y13 y14 y15 y16 y17 y18) (spec_cuGood.j4 (k + 1) y0 y1 y2 y3 y4 y5 y6 y7 y8 y9 y10 y11 y12 y13 y14 y15 y16 y17 y18))
 | 0 => ⟨fun _ _ _ _ r h => by simp [spec_cuGood.j0] at h, fun _ _ _ _ _ _ _ r h => by simp [spec_cuGood.l0] at h, fun _ _ _ _ _ _ _ _ _ _ _ _ r h => by simp [spec_cuGood.j2] at h, fun _ _ _ _ _ _ _ _ _ _ _ _ _ _ r h => by simp [spec_cuGood.l1] at h, fun _ _ _ _ _ _ _ _ _ _ _ _ _ _ _ _ _ _ _ r h => by simp [spec_cuGood.j4] at h⟩
 | k + 1 => by
  obtain ⟨ih0, ih1, ih2, ih3, ih4⟩ := spec_cuGood.mono_l k
  refine ⟨?_, ?_, ?_, ?_, ?_⟩
  ·
   intro y0 y1 y2 y3
   unfold spec_cuGood.j0
   repeat' first
   | (with_reducible exact ih0 _ _ _ _)
   | (with_reducible exact ih1 _ _ _ _ _ _ _)
   | (with_reducible exact ih2 _ _ _ _ _ _ _ _ _ _ _ _)
   | (with_reducible exact ih3 _ _ _ _ _ _ _ _ _ _ _ _ _ _)
   | (with_reducible exact ih4 _ _ _ _ _ _ _ _ _ _ _ _ _ _ _ _ _ _ _)
   | (with_reducible exact LeO.refl _)
   | (with_reducible exact LeO.none _)
   | (with_reducible refine LeO.ite ?_ ?_)
   | (with_reducible refine LeO.bind ?_ (fun _ => ?_))
   | exact ih0 _ _ _ _
   | exact ih1 _ _ _ _ _ _ _
   | exact ih2 _ _ _ _ _ _ _ _ _ _ _ _
   | exact ih3 _ _ _ _ _ _ _ _ _ _ _ _ _ _
   | exact ih4 _ _ _ _ _ _ _ _ _ _ _ _ _ _ _ _ _ _ _
   | exact LeO.none _
   | refine LeO.ite ?_ ?_
   | refine LeO.bind ?_ (fun _ => ?_)
  ·
   intro y0 y1 y2 y3 y4 y5 y6
   unfold spec_cuGood.l0
   repeat' first
   | (with_reducible exact ih0 _ _ _ _)
   | (with_reducible exact ih1 _ _ _ _ _ _ _)
   | (with_reducible exact ih2 _ _ _ _ _ _ _ _ _ _ _ _)
   | (with_reducible exact ih3 _ _ _ _ _ _ _ _ _ _ _ _ _ _)
   | (with_reducible exact ih4 _ _ _ _ _ _ _ _ _ _ _ _ _ _ _ _ _ _ _)
   | (with_reducible exact LeO.refl _)
   | (with_reducible exact LeO.none _)
   | (with_reducible refine LeO.ite ?_ ?_)
   | (with_reducible refine LeO.bind ?_ (fun _ => ?_))
   | exact ih0 _ _ _ _
   | exact ih1 _ _ _ _ _ _ _
   | exact ih2 _ _ _ _ _ _ _ _ _ _ _ _
   | exact ih3 _ _ _ _ _ _ _ _ _ _ _ _ _ _
   | exact ih4 _ _ _ _ _ _ _ _ _ _ _ _ _ _ _ _ _ _ _
   | exact LeO.none _
   | refine LeO.ite ?_ ?_
   | refine LeO.bind ?_ (fun _ => ?_)
  ·
   intro y0 y1 y2 y3 y4 y5 y6 y7 y8 y9 y10 y11
   unfold spec_cuGood.j2
   repeat' first
   | (with_reducible exact ih0 _ _ _ _)
   | (with_reducible exact ih1 _ _ _ _ _ _ _)
   | (with_reducible exact ih2 _ _ _ _ _ _ _ _ _ _ _ _)
   | (with_reducible exact ih3 _ _ _ _ _ _ _ _ _ _ _ _ _ _)
   | (with_reducible exact ih4 _ _ _ _ _ _ _ _ _ _ _ _ _ _ _ _ _ _ _)
   | (with_reducible exact LeO.refl _)
   | (with_reducible exact LeO.none _)
   | (with_reducible refine LeO.ite ?_ ?_)
   | (with_reducible refine LeO.bind ?_ (fun _ => ?_))
   | exact ih0 _ _ _ _
   | exact ih1 _ _ _ _ _ _ _
   | exact ih2 _ _ _ _ _ _ _ _ _ _ _ _
   | exact ih3 _ _ _ _ _ _ _ _ _ _ _ _ _ _
   | exact ih4 _ _ _ _ _ _ _ _ _ _ _ _ _ _ _ _ _ _ _
   | exact LeO.none _
   | refine LeO.ite ?_ ?_
   | refine LeO.bind ?_ (fun _ => ?_)
  ·
   intro y0 y1 y2 y3 y4 y5 y6 y7 y8 y9 y10 y11 y12 y13
   unfold spec_cuGood.l1
   repeat' first
   | (with_reducible exact ih0 _ _ _ _)
   | (with_reducible exact ih1 _ _ _ _ _ _ _)
   | (with_reducible exact ih2 _ _ _ _ _ _ _ _ _ _ _ _)
   | (with_reducible exact ih3 _ _ _ _ _ _ _ _ _ _ _ _ _ _)
   | (with_reducible exact ih4 _ _ _ _ _ _ _ _ _ _ _ _ _ _ _ _ _ _ _)
   | (with_reducible exact LeO.refl _)
   | (with_reducible exact LeO.none _)
   | (with_reducible refine LeO.ite ?_ ?_)
   | (with_reducible refine LeO.bind ?_ (fun _ => ?_))
   | exact ih0 _ _ _ _
   | exact ih1 _ _ _ _ _ _ _
   | exact ih2 _ _ _ _ _ _ _ _ _ _ _ _
   | exact ih3 _ _ _ _ _ _ _ _ _ _ _ _ _ _
   | exact ih4 _ _ _ _ _ _ _ _ _ _ _ _ _ _ _ _ _ _ _
   | exact LeO.none _
   | refine LeO.ite ?_ ?_
   | refine LeO.bind ?_ (fun _ => ?_)
  ·
   intro y0 y1 y2 y3 y4 y5 y6 y7 y8 y9 y10 y11 y12 y13 y14 y15 y16 y17 y18
   unfold spec_cuGood.j4
   repeat' first
   | (with_reducible exact ih0 _ _ _ _)
   | (with_reducible exact ih1 _ _ _ _ _ _ _)
   | (with_reducible exact ih2 _ _ _ _ _ _ _ _ _ _ _ _)
   | (with_reducible exact ih3 _ _ _ _ _ _ _ _ _ _ _ _ _ _)
   | (with_reducible exact ih4 _ _ _ _ _ _ _ _ _ _ _ _ _ _ _ _ _ _ _)
   | (with_reducible exact LeO.refl _)
   | (with_reducible exact LeO.none _)
   | (with_reducible refine LeO.ite ?_ ?_)
   | (with_reducible refine LeO.bind ?_ (fun _ => ?_))
   | exact ih0 _ _ _ _
   | exact ih1 _ _ _ _ _ _ _
   | exact ih2 _ _ _ _ _ _ _ _ _ _ _ _
   | exact ih3 _ _ _ _ _ _ _ _ _ _ _ _ _ _
   | exact ih4 _ _ _ _ _ _ _ _ _ _ _ _ _ _ _ _ _ _ _
   | exact LeO.none _
   | refine LeO.ite ?_ ?_
   | refine LeO.bind ?_ (fun _ => ?_)
theorem spec_cuGood.mono : ∀ a0 a1 a2 k, LeO (spec_cuGood.f k a0 a1 a2) (spec_cuGood.f (k + 1) a0 a1 a2) := by
 intro a0 a1 a2 k
 obtain ⟨ih0, ih1, ih2, ih3, ih4⟩ := spec_cuGood.mono_l k
 unfold spec_cuGood.f
 repeat' first
   | (with_reducible exact ih0 _ _ _ _)
   | (with_reducible exact ih1 _ _ _ _ _ _ _)
   | (with_reducible exact ih2 _ _ _ _ _ _ _ _ _ _ _ _)
   | (with_reducible exact ih3 _ _ _ _ _ _ _ _ _ _ _ _ _ _)
   | (with_reducible exact ih4 _ _ _ _ _ _ _ _ _ _ _ _ _ _ _ _ _ _ _)
   | (with_reducible exact LeO.refl _)
   | (with_reducible exact LeO.none _)
   | (with_reducible refine LeO.ite ?_ ?_)
   | (with_reducible refine LeO.bind ?_ (fun _ => ?_))
   | exact ih0 _ _ _ _
   | exact ih1 _ _ _ _ _ _ _
   | exact ih2 _ _ _ _ _ _ _ _ _ _ _ _
   | exact ih3 _ _ _ _ _ _ _ _ _ _ _ _ _ _
   | exact ih4 _ _ _ _ _ _ _ _ _ _ _ _ _ _ _ _ _ _ _
   | exact LeO.none _
   | refine LeO.ite ?_ ?_
   | refine LeO.bind ?_ (fun _ => ?_)
set_option maxHeartbeats 8000000 in
set_option maxRecDepth 100000 in
theorem spec_cuGood.calls (k : Nat) (a0_0 : Int) (a0_1 : Int) (A0_2 : Option Addr) (c0_2 : Nat) (l0_2 : List (S87)) (r : Bool) (w : World) (hr0_2 : Kd.C k87 w A0_2 l0_2.length l0_2) (hc0_2 : l0_2.length ≤ c0_2) (h : spec_cuGood.f k a0_0 a0_1 l0_2 = some r) :
  Calls Try.prog 59 #[.agg #[.int .i64 a0_0, .int .i64 a0_1, .slice A0_2 l0_2.length c0_2]] w fun e w' => e = .returned (.bool r) ∧ Below w.heap.size w w' := by
 have hu31 := Try.underlying31
 have hu87 := Try.underlying87
 have HR0_2 := As_ hr0_2
 have HC0_2 := As_ hc0_2
 clear hr0_2 hc0_2
 have HB := As_ (Below.refl w.heap.size w)
 have H : ((spec_l1In.f a0_0 1 500).bind fun t137 => (if t137 = true then ((spec_l1In.f a0_1 1 500).bind fun t138 => (if t138 = true then ((spec_l1In.f (l0_2.length : Int) 1 30).bind fun t139 => (spec_cuGood.j0 k (!t139) a0_0 a0_1 l0_2)) else (spec_cuGood.j0 k true a0_0 a0_1 l0_2))) else (spec_cuGood.j0 k true a0_0 a0_1 l0_2))) = some r := h
 clear h
 have HC2 := As_ H
 clear H
 go_enter Try.func59, Try.ntmps59
 go_upto_region 1 with (first | ((with_reducible refine gate_dst (N := 1) rfl ?_); (try (refine gate_guard (by rfl) ?_; dsimp only)); refine box_event rfl (N := 1) rfl (cs := #[.int .i64 a0_0, .int .i64 a0_1, .slice A0_2 l0_2.length c0_2]) (t := 31) ?hr ?_; (case hr => first | (go_simp; done) | (go_simp; rfl)); intro gb136 hg w3 hbox hb; have BK136 := As_ (hbox); have hW_ := bel_ w hb (by repeat (first | (with_reducible first | exact HB.out | apply ba_ | apply bn_ | apply bd_) | exact HB.out)); have GE136 := As_ (gesz hg hW_); replace HB := As_ (below_step hW_ hb); clear hW_ hb hbox hg))
 (try simp only [Act.put, sib_, sc0_, sc1_])
 go_cut [24] (fun v24 wc => ∃ (kq : Nat) (x24_1 : Bool), v24 = .bool x24_1 ∧ Aside0 (spec_cuGood.j0 kq x24_1 a0_0 a0_1 l0_2 = some r) ∧ Aside0 (kq ≤ k) ∧ Aside0 (wc.heap[gb136]? = some (.cells #[.int .i64 a0_0, .int .i64 a0_1, (.slice A0_2 l0_2.length c0_2)] 31 (0, 0))) ∧ Aside0 (Below w.heap.size w wc))
 case first =>
  have H := HC2.out
  clear HC2
  replace H := Option.bind_eq_some_iff.mp H
  obtain ⟨t137, A40, H⟩ := H
  try dsimp only at H
  have A4 := As_ A40
  clear A40
  by_cases c5 : t137 = true
  ·
   subst c5
   have H1 : ((spec_l1In.f a0_1 1 500).bind fun t138 => (if t138 = true then ((spec_l1In.f (l0_2.length : Int) 1 30).bind fun t139 => (spec_cuGood.j0 k (!t139) a0_0 a0_1 l0_2)) else (spec_cuGood.j0 k true a0_0 a0_1 l0_2))) = some r := by rw [if_pos rfl] at H; exact H
   clear H
   have H := H1
   clear H1
   replace H := Option.bind_eq_some_iff.mp H
   obtain ⟨t138, A60, H⟩ := H
   try dsimp only at H
   have A6 := As_ A60
   clear A60
   by_cases c7 : t138 = true
   ·
    subst c7
    have H1 : ((spec_l1In.f (l0_2.length : Int) 1 30).bind fun t139 => (spec_cuGood.j0 k (!t139) a0_0 a0_1 l0_2)) = some r := by rw [if_pos rfl] at H; exact H
    clear H
    have H := H1
    clear H1
    replace H := Option.bind_eq_some_iff.mp H
    obtain ⟨t139, A80, H⟩ := H
    try dsimp only at H
    have A8 := As_ A80
    clear A80
    have H' := As_ H
    clear H
    obtain ⟨hcz9_0, hcz9_1, hcz9_2⟩ := c3_ (w := w3) BK136.out
    obtain ⟨hfz9_0, hfz9_1, hfz9_2⟩ := z3_ BK136.out
    go_wp2_with (first | ((with_reducible refine gate_callee (f := 42) rfl ?_); refine goesL_ (some 10) rfl rfl Try.func42 (by kernel_rfl) rfl #[.int .i64 a0_0, .int .i64 1, .int .i64 500] rfl (by (try simp only [List.map_toArray, List.map_cons, List.map_nil]); first | done | rfl | (simp only [List.length_drop, List.length_take]; rfl)) ?_; (with_reducible refine (spec_l1In.calls a0_0 1 500 true _ A4.out).mono ?_); rintro e w' ⟨rfl, ⟨nd, rfl⟩⟩; refine ⟨_, rfl, ?_⟩) | (go_at_call 42; (with_reducible refine (spec_l1In.calls a0_1 1 500 true _ A6.out).mono ?_); rintro e w' ⟨rfl, ⟨nd, rfl⟩⟩) | (go_at_call 42; (with_reducible refine (spec_l1In.calls (l0_2.length : Int) 1 30 t139 _ A8.out).mono ?_); rintro e w' ⟨rfl, ⟨nd, rfl⟩⟩))
    go_meet
    case rel => exact ⟨_, (!t139), (by first | rfl | (simp; done) | (simp [*]; done)), H', ⟨by first | omega | exact Nat.le_refl _⟩, ⟨by (with_reducible repeat (first | refine kn_ ?_ _ | refine kd_ ?_ | refine ka_ ?_ _)); exact BK136.out⟩, ⟨by repeat (first | (with_reducible first | exact HB.out | apply ba_ | apply bn_ | apply bd_ | refine bs_ ?_ GE136.out) | exact HB.out)⟩⟩
   ·
    replace c7 := Bool.eq_false_iff.mpr c7
    subst c7
    have H1 : (spec_cuGood.j0 k true a0_0 a0_1 l0_2) = some r := by rw [if_neg (show ¬ (false = true) by decide)] at H; exact H
    clear H
    have H := H1
    clear H1
    have H' := As_ H
    clear H
    obtain ⟨hcz10_0, hcz10_1, hcz10_2⟩ := c3_ (w := w3) BK136.out
    obtain ⟨hfz10_0, hfz10_1, hfz10_2⟩ := z3_ BK136.out
    go_wp2_with (first | ((with_reducible refine gate_callee (f := 42) rfl ?_); refine goesL_ (some 10) rfl rfl Try.func42 (by kernel_rfl) rfl #[.int .i64 a0_0, .int .i64 1, .int .i64 500] rfl (by (try simp only [List.map_toArray, List.map_cons, List.map_nil]); first | done | rfl | (simp only [List.length_drop, List.length_take]; rfl)) ?_; (with_reducible refine (spec_l1In.calls a0_0 1 500 true _ A4.out).mono ?_); rintro e w' ⟨rfl, ⟨nd, rfl⟩⟩; refine ⟨_, rfl, ?_⟩) | (go_at_call 42; (with_reducible refine (spec_l1In.calls a0_1 1 500 false _ A6.out).mono ?_); rintro e w' ⟨rfl, ⟨nd, rfl⟩⟩))
    go_meet
    case rel => exact ⟨_, (true), (by first | rfl | (simp; done) | (simp [*]; done)), H', ⟨by first | omega | exact Nat.le_refl _⟩, ⟨by (with_reducible repeat (first | refine kn_ ?_ _ | refine kd_ ?_ | refine ka_ ?_ _)); exact BK136.out⟩, ⟨by repeat (first | (with_reducible first | exact HB.out | apply ba_ | apply bn_ | apply bd_ | refine bs_ ?_ GE136.out) | exact HB.out)⟩⟩
  ·
   replace c5 := Bool.eq_false_iff.mpr c5
   subst c5
   have H1 : (spec_cuGood.j0 k true a0_0 a0_1 l0_2) = some r := by rw [if_neg (show ¬ (false = true) by decide)] at H; exact H
   clear H
   have H := H1
   clear H1
   have H' := As_ H
   clear H
   obtain ⟨hcz11_0, hcz11_1, hcz11_2⟩ := c3_ (w := w3) BK136.out
   obtain ⟨hfz11_0, hfz11_1, hfz11_2⟩ := z3_ BK136.out
   go_wp2_with (first | ((with_reducible refine gate_callee (f := 42) rfl ?_); refine goesL_ (some 10) rfl rfl Try.func42 (by kernel_rfl) rfl #[.int .i64 a0_0, .int .i64 1, .int .i64 500] rfl (by (try simp only [List.map_toArray, List.map_cons, List.map_nil]); first | done | rfl | (simp only [List.length_drop, List.length_take]; rfl)) ?_; (with_reducible refine (spec_l1In.calls a0_0 1 500 false _ A4.out).mono ?_); rintro e w' ⟨rfl, ⟨nd, rfl⟩⟩; refine ⟨_, rfl, ?_⟩))
   go_meet
   case rel => exact ⟨_, (true), (by first | rfl | (simp; done) | (simp [*]; done)), H', ⟨by first | omega | exact Nat.le_refl _⟩, ⟨by (with_reducible repeat (first | refine kn_ ?_ _ | refine kd_ ?_ | refine ka_ ?_ _)); exact BK136.out⟩, ⟨by repeat (first | (with_reducible first | exact HB.out | apply ba_ | apply bn_ | apply bd_ | refine bs_ ?_ GE136.out) | exact HB.out)⟩⟩
 case rest =>
  clear HC2
  try clear p2; try clear c4; try clear c5; try clear c7; try clear hcz10_0 hcz10_1 hcz10_2; try clear hcz11_0 hcz11_1 hcz11_2; try clear hcz9_0 hcz9_1 hcz9_2; try clear hfz10_0 hfz10_1 hfz10_2; try clear hfz11_0 hfz11_1 hfz11_2; try clear hfz9_0 hfz9_1 hfz9_2
  obtain ⟨kq, x24_1, rfl, HA, HJ1, BK136, HB⟩ := hcut
  rcases kq with _ | kj1
  · exact absurd HA.out (by simp [spec_cuGood.j0])
  have H := HA.out
  clear HA
  simp only [spec_cuGood.j0] at H
  by_cases c12 : x24_1 = true
  ·
   subst c12
   have H1 : (some false) = some r := by rw [if_pos rfl] at H; exact H
   clear H
   have H := H1
   clear H1
   obtain rfl := Option.some.inj H
   go_wp2
   go_ret
   exact ⟨by first | rfl | (simp <;> rfl) | (simp [*] <;> rfl), by repeat (first | (with_reducible first | exact HB.out | apply ba_ | apply bn_ | apply bd_ | refine bs_ ?_ GE136.out) | exact HB.out)⟩
  ·
   replace c12 := Bool.eq_false_iff.mpr c12
   subst c12
   have H1 : (spec_cuGood.l0 kj1 0 l0_2 (l0_2.length : Int) 0 a0_0 a0_1 l0_2) = some r := by rw [if_neg (show ¬ (false = true) by decide)] at H; exact H
   clear H
   have H := H1
   clear H1
   have H' := As_ H
   clear H
   obtain ⟨hcz13_0, hcz13_1, hcz13_2⟩ := c3_ (w := wc) BK136.out
   obtain ⟨hfz13_0, hfz13_1, hfz13_2⟩ := z3_ BK136.out
   go_wp2
   go_loopg [3, 28] kj1 (fun kq v3 v28 w' => ∃ (x3_2 : Int) (x28_2 : Int), v3 = .int .i64 x3_2 ∧ v28 = .int .i64 x28_2 ∧ Aside0 (spec_cuGood.l0 kq x3_2 l0_2 (l0_2.length : Int) x28_2 a0_0 a0_1 l0_2 = some r) ∧ Aside0 (kq ≤ kj1) ∧ Aside0 (w'.heap[gb136]? = some (.cells #[.int .i64 a0_0, .int .i64 a0_1, (.slice A0_2 l0_2.length c0_2)] 31 (0, 0))) ∧ Aside0 (Below w.heap.size w w'))
   case atStart => exact ⟨(0), (0), (by first | rfl | (simp; done) | (simp [*]; done)), (by first | rfl | (simp; done) | (simp [*]; done)), H', ⟨Nat.le_refl _⟩, ⟨by (with_reducible repeat (first | refine kn_ ?_ _ | refine kd_ ?_ | refine ka_ ?_ _)); exact BK136.out⟩, ⟨by repeat (first | (with_reducible first | exact HB.out | apply ba_ | apply bn_ | apply bd_ | refine bs_ ?_ GE136.out) | exact HB.out)⟩⟩
   case round =>
    clear H'
    try clear c1; try clear p2; try clear c4; try clear c5; try clear c7; try clear c12; try clear hcz10_0 hcz10_1 hcz10_2; try clear hcz11_0 hcz11_1 hcz11_2; try clear hcz13_0 hcz13_1 hcz13_2; try clear hcz9_0 hcz9_1 hcz9_2; try clear hfz10_0 hfz10_1 hfz10_2; try clear hfz11_0 hfz11_1 hfz11_2; try clear hfz13_0 hfz13_1 hfz13_2; try clear hfz9_0 hfz9_1 hfz9_2; try clear p2
    obtain ⟨x3_2, x28_2, rfl, rfl, HA, HK2, BK136, HB⟩ := hrel
    rcases gk with _ | k2
    · exact absurd HA.out (by simp [spec_cuGood.l0])
    have H := HA.out
    clear HA
    simp only [spec_cuGood.l0] at H
    by_cases c14 : x28_2 < (l0_2.length : Int)
    ·
     rw [if_pos c14] at H
     have c14b0 : decide (x28_2 < (l0_2.length : Int)) = true := decide_eq_true c14
     clear c14
     by_cases c15 : 0 ≤ x28_2
     case neg => rw [if_neg c15] at H; exact absurd H (by simp)
     rw [if_pos c15] at H
     have c15b0 : decide (0 ≤ x28_2) = true := decide_eq_true c15
     clear c15
     by_cases c16 : x28_2 < (l0_2.length : Int)
     case neg => rw [if_neg c16] at H; exact absurd H (by simp)
     rw [if_pos c16] at H
     have c16b0 : decide (x28_2 < (l0_2.length : Int)) = true := decide_eq_true c16
     clear c16
     have HC17 := As_ H
     clear H
     have p140 : 0 ≤ (x28_2 : Int) := of_decide_eq_true (by first | (with_reducible assumption) | assumption)
     have q140 : x28_2 < (l0_2.length : Int) := of_decide_eq_true (by first | (with_reducible assumption) | assumption)
     obtain ⟨ad140, e140, hx140_0, hx140_1, hx140_2⟩ := at_T87 HR0_2.out x28_2 p140 q140
     cases e140
     replace hx140_0 := pw_cell_below HB.out hx140_0
     replace hx140_1 := pw_cell_below HB.out hx140_1
     replace hx140_2 := pw_cell_below HB.out hx140_2
     replace p140 := eq_true p140
     replace q140 := eq_true q140
     go_upto_region 7 with (first | ((with_reducible refine gate_dst (N := 5) rfl ?_); (try (refine gate_guard (by rfl) ?_; dsimp only)); refine box_event rfl (N := 5) rfl (cs := #[.int .i64 0, .int .i64 0, .int .i64 0]) (t := 87) ?hr ?_; (case hr => first | (go_simp; done) | (go_simp; rfl)); intro gb141 hg w18 hbox hb; have BK141 := As_ (hbox); have hW_ := bel_ w hb (by repeat (first | (with_reducible first | exact HB.out | apply ba_ | apply bn_ | apply bd_ | refine bs_ ?_ GE136.out) | exact HB.out)); have GE141 := As_ (gesz hg hW_); have NB136_141 := As_ (ne_lt hg BK136.out); have NB141_136 := As_ (ne_gt hg BK136.out); replace BK136 := As_ (blk_b hb BK136.out); replace HB := As_ (below_step hW_ hb); clear hW_ hb hbox hg; have hnb19 := NB141_136.out; have hnc19 := NB136_141.out; obtain ⟨hcz20_0, hcz20_1, hcz20_2⟩ := c3_ (w := w18) BK141.out; obtain ⟨hfz20_0, hfz20_1, hfz20_2⟩ := z3_ BK141.out))
     (try simp only [Act.put, sib_, sc0_, sc1_])
     go_cut [58] (fun v58 wc => ∃ (kq : Nat) (x58_16 : Bool), v58 = .bool x58_16 ∧ Aside0 (spec_cuGood.j2 kq x3_2 x28_2 l0_2 (l0_2.length : Int) x28_2 x58_16 a0_0 a0_1 l0_2 ((rd_T87 l0_2 x28_2).f0) ((rd_T87 l0_2 x28_2).f1) ((rd_T87 l0_2 x28_2).f2) = some r) ∧ Aside0 (kq ≤ k2) ∧ Aside0 (wc.heap[gb136]? = some (.cells #[.int .i64 a0_0, .int .i64 a0_1, (.slice (some ad140) l0_2.length c0_2)] 31 (0, 0))) ∧ Aside0 (wc.heap[gb141]? = some (.cells #[.int .i64 ((rd_T87 l0_2 x28_2).f0), .int .i64 ((rd_T87 l0_2 x28_2).f1), .int .i64 ((rd_T87 l0_2 x28_2).f2)] 87 (0, 0))) ∧ Aside0 (Below w.heap.size w wc))
     case first =>
      have H := HC17.out
      clear HC17
      replace H := Option.bind_eq_some_iff.mp H
      obtain ⟨t142, A210, H⟩ := H
      try dsimp only at H
      have A21 := As_ A210
      clear A210
      by_cases c22 : t142 = true
      ·
       subst c22
       have H1 : ((spec_l1In.f ((rd_T87 l0_2 x28_2).f0) 0 (wrap64 (a0_0 - ((rd_T87 l0_2 x28_2).f2)))).bind fun t143 => (if t143 = true then ((spec_l1In.f ((rd_T87 l0_2 x28_2).f1) 0 (wrap64 (a0_1 - ((rd_T87 l0_2 x28_2).f2)))).bind fun t144 => (spec_cuGood.j2 k2 x3_2 x28_2 l0_2 (l0_2.length : Int) x28_2 (!t144) a0_0 a0_1 l0_2 ((rd_T87 l0_2 x28_2).f0) ((rd_T87 l0_2 x28_2).f1) ((rd_T87 l0_2 x28_2).f2))) else (spec_cuGood.j2 k2 x3_2 x28_2 l0_2 (l0_2.length : Int) x28_2 true a0_0 a0_1 l0_2 ((rd_T87 l0_2 x28_2).f0) ((rd_T87 l0_2 x28_2).f1) ((rd_T87 l0_2 x28_2).f2)))) = some r := by rw [if_pos rfl] at H; exact H
       clear H
       have H := H1
       clear H1
       replace H := Option.bind_eq_some_iff.mp H
       obtain ⟨t143, A230, H⟩ := H
       try dsimp only at H
       have A23 := As_ A230
       clear A230
       by_cases c24 : t143 = true
       ·
        subst c24
        have H1 : ((spec_l1In.f ((rd_T87 l0_2 x28_2).f1) 0 (wrap64 (a0_1 - ((rd_T87 l0_2 x28_2).f2)))).bind fun t144 => (spec_cuGood.j2 k2 x3_2 x28_2 l0_2 (l0_2.length : Int) x28_2 (!t144) a0_0 a0_1 l0_2 ((rd_T87 l0_2 x28_2).f0) ((rd_T87 l0_2 x28_2).f1) ((rd_T87 l0_2 x28_2).f2))) = some r := by rw [if_pos rfl] at H; exact H
        clear H
        have H := H1
        clear H1
        replace H := Option.bind_eq_some_iff.mp H
        obtain ⟨t144, A250, H⟩ := H
        try dsimp only at H
        have A25 := As_ A250
        clear A250
        have H' := As_ H
        clear H
        have hnb26 := NB141_136.out
        have hnc26 := NB136_141.out
        obtain ⟨hcz27_0, hcz27_1, hcz27_2⟩ := c3_ (w := w18) BK141.out
        obtain ⟨hfz27_0, hfz27_1, hfz27_2⟩ := z3_ BK141.out
        go_wp2_with (first | ((with_reducible refine gate_callee (f := 42) rfl ?_); refine goesL_ (some 35) rfl rfl Try.func42 (by kernel_rfl) rfl #[.int .i64 ((rd_T87 l0_2 x28_2).f2), .int .i64 1, .int .i64 500] rfl (by (try simp only [List.map_toArray, List.map_cons, List.map_nil]); first | done | rfl | (simp only [List.length_drop, List.length_take]; rfl)) ?_; (with_reducible refine (spec_l1In.calls ((rd_T87 l0_2 x28_2).f2) 1 500 true _ A21.out).mono ?_); rintro e w' ⟨rfl, ⟨nd, rfl⟩⟩; refine ⟨_, rfl, ?_⟩; obtain ⟨hcz28_0, hcz28_1, hcz28_2⟩ := c3_ (w := w18) BK136.out; obtain ⟨hfz28_0, hfz28_1, hfz28_2⟩ := z3_ BK136.out) | (go_at_call 42; (with_reducible refine (spec_l1In.calls ((rd_T87 l0_2 x28_2).f0) 0 (wrap64 (a0_0 - ((rd_T87 l0_2 x28_2).f2))) true _ A23.out).mono ?_); rintro e w' ⟨rfl, ⟨nd, rfl⟩⟩) | (go_at_call 42; (with_reducible refine (spec_l1In.calls ((rd_T87 l0_2 x28_2).f1) 0 (wrap64 (a0_1 - ((rd_T87 l0_2 x28_2).f2))) t144 _ A25.out).mono ?_); rintro e w' ⟨rfl, ⟨nd, rfl⟩⟩))
        go_meet
        case rel => exact ⟨_, (!t144), (by first | rfl | (simp; done) | (simp [*]; done)), H', ⟨by have := HJ1.out; have := HK2.out; first | omega | exact Nat.le_refl _⟩, ⟨by (with_reducible repeat (first | refine kn_ ?_ _ | refine kd_ ?_ | refine ka_ ?_ _)); refine blk_far ?_ NB136_141.out _; refine blk_far ?_ NB136_141.out _; refine blk_far ?_ NB136_141.out _; (with_reducible repeat (first | refine kn_ ?_ _ | refine kd_ ?_ | refine ka_ ?_ _)); exact BK136.out⟩, ⟨by (with_reducible repeat (first | refine kn_ ?_ _ | refine kd_ ?_ | refine ka_ ?_ _)); refine blk_put (cs := #[.int .i64 ((rd_T87 l0_2 x28_2).f0), .int .i64 ((rd_T87 l0_2 x28_2).f1), .int .i64 0]) ?_ 2 _ rfl; refine blk_put (cs := #[.int .i64 ((rd_T87 l0_2 x28_2).f0), .int .i64 0, .int .i64 0]) ?_ 1 _ rfl; refine blk_put (cs := #[.int .i64 0, .int .i64 0, .int .i64 0]) ?_ 0 _ rfl; (with_reducible repeat (first | refine kn_ ?_ _ | refine kd_ ?_ | refine ka_ ?_ _)); exact BK141.out⟩, ⟨by repeat (first | (with_reducible first | exact HB.out | apply ba_ | apply bn_ | apply bd_ | refine below_setA ?_ (by assumption)) | exact HB.out)⟩⟩
       ·
        replace c24 := Bool.eq_false_iff.mpr c24
        subst c24
        have H1 : (spec_cuGood.j2 k2 x3_2 x28_2 l0_2 (l0_2.length : Int) x28_2 true a0_0 a0_1 l0_2 ((rd_T87 l0_2 x28_2).f0) ((rd_T87 l0_2 x28_2).f1) ((rd_T87 l0_2 x28_2).f2)) = some r := by rw [if_neg (show ¬ (false = true) by decide)] at H; exact H
        clear H
        have H := H1
        clear H1
        have H' := As_ H
        clear H
        have hnb29 := NB141_136.out
        have hnc29 := NB136_141.out
        obtain ⟨hcz30_0, hcz30_1, hcz30_2⟩ := c3_ (w := w18) BK141.out
        obtain ⟨hfz30_0, hfz30_1, hfz30_2⟩ := z3_ BK141.out
        go_wp2_with (first | ((with_reducible refine gate_callee (f := 42) rfl ?_); refine goesL_ (some 35) rfl rfl Try.func42 (by kernel_rfl) rfl #[.int .i64 ((rd_T87 l0_2 x28_2).f2), .int .i64 1, .int .i64 500] rfl (by (try simp only [List.map_toArray, List.map_cons, List.map_nil]); first | done | rfl | (simp only [List.length_drop, List.length_take]; rfl)) ?_; (with_reducible refine (spec_l1In.calls ((rd_T87 l0_2 x28_2).f2) 1 500 true _ A21.out).mono ?_); rintro e w' ⟨rfl, ⟨nd, rfl⟩⟩; refine ⟨_, rfl, ?_⟩; obtain ⟨hcz31_0, hcz31_1, hcz31_2⟩ := c3_ (w := w18) BK136.out; obtain ⟨hfz31_0, hfz31_1, hfz31_2⟩ := z3_ BK136.out) | (go_at_call 42; (with_reducible refine (spec_l1In.calls ((rd_T87 l0_2 x28_2).f0) 0 (wrap64 (a0_0 - ((rd_T87 l0_2 x28_2).f2))) false _ A23.out).mono ?_); rintro e w' ⟨rfl, ⟨nd, rfl⟩⟩))
        go_meet
        case rel => exact ⟨_, (true), (by first | rfl | (simp; done) | (simp [*]; done)), H', ⟨by have := HJ1.out; have := HK2.out; first | omega | exact Nat.le_refl _⟩, ⟨by (with_reducible repeat (first | refine kn_ ?_ _ | refine kd_ ?_ | refine ka_ ?_ _)); refine blk_far ?_ NB136_141.out _; refine blk_far ?_ NB136_141.out _; refine blk_far ?_ NB136_141.out _; (with_reducible repeat (first | refine kn_ ?_ _ | refine kd_ ?_ | refine ka_ ?_ _)); exact BK136.out⟩, ⟨by (with_reducible repeat (first | refine kn_ ?_ _ | refine kd_ ?_ | refine ka_ ?_ _)); refine blk_put (cs := #[.int .i64 ((rd_T87 l0_2 x28_2).f0), .int .i64 ((rd_T87 l0_2 x28_2).f1), .int .i64 0]) ?_ 2 _ rfl; refine blk_put (cs := #[.int .i64 ((rd_T87 l0_2 x28_2).f0), .int .i64 0, .int .i64 0]) ?_ 1 _ rfl; refine blk_put (cs := #[.int .i64 0, .int .i64 0, .int .i64 0]) ?_ 0 _ rfl; (with_reducible repeat (first | refine kn_ ?_ _ | refine kd_ ?_ | refine ka_ ?_ _)); exact BK141.out⟩, ⟨by repeat (first | (with_reducible first | exact HB.out | apply ba_ | apply bn_ | apply bd_ | refine below_setA ?_ (by assumption)) | exact HB.out)⟩⟩
      ·
       replace c22 := Bool.eq_false_iff.mpr c22
       subst c22
       have H1 : (spec_cuGood.j2 k2 x3_2 x28_2 l0_2 (l0_2.length : Int) x28_2 true a0_0 a0_1 l0_2 ((rd_T87 l0_2 x28_2).f0) ((rd_T87 l0_2 x28_2).f1) ((rd_T87 l0_2 x28_2).f2)) = some r := by rw [if_neg (show ¬ (false = true) by decide)] at H; exact H
       clear H
       have H := H1
       clear H1
       have H' := As_ H
       clear H
       have hnb32 := NB141_136.out
       have hnc32 := NB136_141.out
       obtain ⟨hcz33_0, hcz33_1, hcz33_2⟩ := c3_ (w := w18) BK141.out
       obtain ⟨hfz33_0, hfz33_1, hfz33_2⟩ := z3_ BK141.out
       go_wp2_with (first | ((with_reducible refine gate_callee (f := 42) rfl ?_); refine goesL_ (some 35) rfl rfl Try.func42 (by kernel_rfl) rfl #[.int .i64 ((rd_T87 l0_2 x28_2).f2), .int .i64 1, .int .i64 500] rfl (by (try simp only [List.map_toArray, List.map_cons, List.map_nil]); first | done | rfl | (simp only [List.length_drop, List.length_take]; rfl)) ?_; (with_reducible refine (spec_l1In.calls ((rd_T87 l0_2 x28_2).f2) 1 500 false _ A21.out).mono ?_); rintro e w' ⟨rfl, ⟨nd, rfl⟩⟩; refine ⟨_, rfl, ?_⟩))
       go_meet
       case rel => exact ⟨_, (true), (by first | rfl | (simp; done) | (simp [*]; done)), H', ⟨by have := HJ1.out; have := HK2.out; first | omega | exact Nat.le_refl _⟩, ⟨by (with_reducible repeat (first | refine kn_ ?_ _ | refine kd_ ?_ | refine ka_ ?_ _)); refine blk_far ?_ NB136_141.out _; refine blk_far ?_ NB136_141.out _; refine blk_far ?_ NB136_141.out _; (with_reducible repeat (first | refine kn_ ?_ _ | refine kd_ ?_ | refine ka_ ?_ _)); exact BK136.out⟩, ⟨by (with_reducible repeat (first | refine kn_ ?_ _ | refine kd_ ?_ | refine ka_ ?_ _)); refine blk_put (cs := #[.int .i64 ((rd_T87 l0_2 x28_2).f0), .int .i64 ((rd_T87 l0_2 x28_2).f1), .int .i64 0]) ?_ 2 _ rfl; refine blk_put (cs := #[.int .i64 ((rd_T87 l0_2 x28_2).f0), .int .i64 0, .int .i64 0]) ?_ 1 _ rfl; refine blk_put (cs := #[.int .i64 0, .int .i64 0, .int .i64 0]) ?_ 0 _ rfl; (with_reducible repeat (first | refine kn_ ?_ _ | refine kd_ ?_ | refine ka_ ?_ _)); exact BK141.out⟩, ⟨by repeat (first | (with_reducible first | exact HB.out | apply ba_ | apply bn_ | apply bd_ | refine below_setA ?_ (by assumption)) | exact HB.out)⟩⟩
     case rest =>
      clear HC17
      try clear c1; try clear p1
      try clear q1
      try clear hx1; try clear c2; try clear p2; try clear c3; try clear c4; try clear c5; try clear p6; try clear c7; try clear c12; try clear c14; try clear c14b0; try clear p14
      try clear q14
      try clear hx14; try clear c15; try clear c15b0; try clear c16; try clear c16b0; try clear c19; try clear c22; try clear c24; try clear c26; try clear c29; try clear c32; try clear hcz10_0 hcz10_1 hcz10_2; try clear hcz11_0 hcz11_1 hcz11_2; try clear hcz13_0 hcz13_1 hcz13_2; try clear hcz20_0 hcz20_1 hcz20_2; try clear hcz27_0 hcz27_1 hcz27_2; try clear hcz28_0 hcz28_1 hcz28_2; try clear hcz30_0 hcz30_1 hcz30_2; try clear hcz31_0 hcz31_1 hcz31_2; try clear hcz33_0 hcz33_1 hcz33_2; try clear hcz9_0 hcz9_1 hcz9_2; try clear hfz10_0 hfz10_1 hfz10_2; try clear hfz11_0 hfz11_1 hfz11_2; try clear hfz13_0 hfz13_1 hfz13_2; try clear hfz20_0 hfz20_1 hfz20_2; try clear hfz27_0 hfz27_1 hfz27_2; try clear hfz28_0 hfz28_1 hfz28_2; try clear hfz30_0 hfz30_1 hfz30_2; try clear hfz31_0 hfz31_1 hfz31_2; try clear hfz33_0 hfz33_1 hfz33_2; try clear hfz9_0 hfz9_1 hfz9_2; try clear hx140_0; try clear hx140_1; try clear hx140_2; try clear p140; try clear p2
      try clear q140
      obtain ⟨kq, x58_16, rfl, HA, HJ16, BK136, BK141, HB⟩ := hcut
      rcases kq with _ | kj16
      · exact absurd HA.out (by simp [spec_cuGood.j2])
      have H := HA.out
      clear HA
      simp only [spec_cuGood.j2] at H
      by_cases c34 : x58_16 = true
      ·
       subst c34
       have H1 : (some false) = some r := by rw [if_pos rfl] at H; exact H
       clear H
       have H := H1
       clear H1
       obtain rfl := Option.some.inj H
       go_wp2
       go_ret
       exact ⟨by first | rfl | (simp <;> rfl) | (simp [*] <;> rfl), by repeat (first | (with_reducible first | exact HB.out | apply ba_ | apply bn_ | apply bd_ | refine below_setA ?_ (by assumption)) | exact HB.out)⟩
      ·
       replace c34 := Bool.eq_false_iff.mpr c34
       subst c34
       have H1 : (if 0 ≤ x28_2 then (if x28_2 ≤ (l0_2.length : Int) then ((some (l0_2.take (x28_2 : Int).toNat : List (S87))).bind fun y145 => (spec_cuGood.l1 kj16 (wrap64 (x3_2 + (wrap64 (((rd_T87 l0_2 x28_2).f2) * ((rd_T87 l0_2 x28_2).f2))))) x28_2 l0_2 (l0_2.length : Int) x28_2 y145 (y145.length : Int) 0 a0_0 a0_1 l0_2 ((rd_T87 l0_2 x28_2).f0) ((rd_T87 l0_2 x28_2).f1) ((rd_T87 l0_2 x28_2).f2))) else (none)) else (none)) = some r := by rw [if_neg (show ¬ (false = true) by decide)] at H; exact H
       clear H
       have H := H1
       clear H1
       by_cases c35 : 0 ≤ x28_2
       case neg => rw [if_neg c35] at H; exact absurd H (by simp)
       rw [if_pos c35] at H
       have c35b0 := eq_true c35
       have c35b1 : decide (0 ≤ x28_2) = true := decide_eq_true c35
       clear c35
       by_cases c36 : x28_2 ≤ (l0_2.length : Int)
       case neg => rw [if_neg c36] at H; exact absurd H (by simp)
       rw [if_pos c36] at H
       have c36b0 := eq_true c36
       have c36b1 : decide (x28_2 ≤ (l0_2.length : Int)) = true := decide_eq_true c36
       clear c36
       obtain ⟨y145, hy145⟩ : ∃ y_ : List (S87), y_ = (l0_2.take (x28_2 : Int).toNat) := ⟨_, rfl⟩
       replace H : (spec_cuGood.l1 kj16 (wrap64 (x3_2 + (wrap64 (((rd_T87 l0_2 x28_2).f2) * ((rd_T87 l0_2 x28_2).f2))))) x28_2 l0_2 (l0_2.length : Int) x28_2 y145 (y145.length : Int) 0 a0_0 a0_1 l0_2 ((rd_T87 l0_2 x28_2).f0) ((rd_T87 l0_2 x28_2).f1) ((rd_T87 l0_2 x28_2).f2)) = some r := by first | (rw [hy145]; with_reducible exact H) | (have H2_ := (Option.bind_some _ _).symm.trans H; rw [hy145]; with_reducible exact H2_) | (have H2_ := (Option.bind_some _ _).symm.trans H; with_reducible exact H2_) | with_reducible exact H | (rw [hy145]; exact H) | exact H
       have Ny145 := As_ hy145
       clear hy145
       have H' := As_ H
       clear H
       have hnb37 := NB141_136.out
       have hnc37 := NB136_141.out
       obtain ⟨hcz38_0, hcz38_1, hcz38_2⟩ := c3_ (w := wc) BK141.out
       obtain ⟨hfz38_0, hfz38_1, hfz38_2⟩ := z3_ BK141.out
       obtain ⟨hcz39_0, hcz39_1, hcz39_2⟩ := c3_ (w := wc) BK136.out
       obtain ⟨hfz39_0, hfz39_1, hfz39_2⟩ := z3_ BK136.out
       have q40 : (x28_2 : Int) ≤ ((l0_2.length : Int) : Int) := of_decide_eq_true (by first | (with_reducible assumption) | assumption)
       obtain ⟨i040, hi040, _, hsz40, _⟩ := info_parts info87
       have hroom40 : l0_2.length ≤ c0_2 := HC0_2.out
       have hC40 : Kd.C k87 _ (some ad140) l0_2.length l0_2 := HR0_2.out
       have hcut40 := cut_to (P := Try.prog) 29 87 .i64 Try.underlying29 hi040 (some ad140) l0_2.length c0_2 x28_2 (of_decide_eq_true (by first | (with_reducible assumption) | assumption)) q40 hroom40
       have hr40 := Kd.C_take (m := (x28_2 : Int).toNat) hC40 (by omega)
       have hy40 : y145.length = (x28_2 : Int).toNat := (by rw [Ny145.out, List.length_take]; omega)
       rw [← Ny145.out] at hr40
       rw [← hy40] at hcut40
       have HR148 := As_ hr40
       have HC148 := As_ (show y145.length ≤ c0_2 from by omega)
       clear hr40 hC40 hroom40 hi040 hsz40
       have KY40 := As_ hy40
       clear hy40
       replace q40 := eq_true q40
       go_wp2
       go_loopg [71] kj16 (fun kq v71 w' => ∃ (x71_4 : Int), v71 = .int .i64 x71_4 ∧ Aside0 (spec_cuGood.l1 kq (wrap64 (x3_2 + (wrap64 (((rd_T87 l0_2 x28_2).f2) * ((rd_T87 l0_2 x28_2).f2))))) x28_2 l0_2 (l0_2.length : Int) x28_2 y145 (y145.length : Int) x71_4 a0_0 a0_1 l0_2 ((rd_T87 l0_2 x28_2).f0) ((rd_T87 l0_2 x28_2).f1) ((rd_T87 l0_2 x28_2).f2) = some r) ∧ Aside0 (kq ≤ kj16) ∧ Aside0 (w'.heap[gb136]? = some (.cells #[.int .i64 a0_0, .int .i64 a0_1, (.slice (some ad140) l0_2.length c0_2)] 31 (0, 0))) ∧ Aside0 (w'.heap[gb141]? = some (.cells #[.int .i64 ((rd_T87 l0_2 x28_2).f0), .int .i64 ((rd_T87 l0_2 x28_2).f1), .int .i64 ((rd_T87 l0_2 x28_2).f2)] 87 (0, 0))) ∧ Aside0 (Below w.heap.size w w'))
       case atStart => exact ⟨(0), (by first | rfl | (simp; done) | (simp [*]; done)), H', ⟨Nat.le_refl _⟩, ⟨by (with_reducible repeat (first | refine kn_ ?_ _ | refine kd_ ?_ | refine ka_ ?_ _)); exact BK136.out⟩, ⟨by (with_reducible repeat (first | refine kn_ ?_ _ | refine kd_ ?_ | refine ka_ ?_ _)); exact BK141.out⟩, ⟨by repeat (first | (with_reducible first | exact HB.out | apply ba_ | apply bn_ | apply bd_ | refine below_setA ?_ (by assumption)) | exact HB.out)⟩⟩
       case round =>
        clear H'
        try clear c1; try clear p1
        try clear q1
        try clear hx1; try clear c2; try clear p2; try clear c3; try clear c4
        try clear q4
        try clear c5; try clear p6; try clear c7; try clear c12; try clear c14; try clear c14b0; try clear p14
        try clear q14
        try clear hx14; try clear c15; try clear c15b0; try clear c16; try clear c16b0; try clear c19; try clear c22; try clear c24; try clear c26; try clear c29; try clear c32; try clear c34; try clear c35; try clear c35b0; try clear c35b1; try clear c36; try clear c36b0; try clear c36b1; try clear c37
        try clear q40
        try clear hcz10_0 hcz10_1 hcz10_2; try clear hcz11_0 hcz11_1 hcz11_2; try clear hcz13_0 hcz13_1 hcz13_2; try clear hcz20_0 hcz20_1 hcz20_2; try clear hcz27_0 hcz27_1 hcz27_2; try clear hcz28_0 hcz28_1 hcz28_2; try clear hcz30_0 hcz30_1 hcz30_2; try clear hcz31_0 hcz31_1 hcz31_2; try clear hcz33_0 hcz33_1 hcz33_2; try clear hcz38_0 hcz38_1 hcz38_2; try clear hcz39_0 hcz39_1 hcz39_2; try clear hcz9_0 hcz9_1 hcz9_2; try clear hfz10_0 hfz10_1 hfz10_2; try clear hfz11_0 hfz11_1 hfz11_2; try clear hfz13_0 hfz13_1 hfz13_2; try clear hfz20_0 hfz20_1 hfz20_2; try clear hfz27_0 hfz27_1 hfz27_2; try clear hfz28_0 hfz28_1 hfz28_2; try clear hfz30_0 hfz30_1 hfz30_2; try clear hfz31_0 hfz31_1 hfz31_2; try clear hfz33_0 hfz33_1 hfz33_2; try clear hfz38_0 hfz38_1 hfz38_2; try clear hfz39_0 hfz39_1 hfz39_2; try clear hfz9_0 hfz9_1 hfz9_2; try clear hx140_0; try clear hx140_1; try clear hx140_2; try clear p1; try clear p14; try clear p140; try clear p2; try clear p6
        try clear q1
        try clear q14
        try clear q140
        try clear q40
        obtain ⟨x71_4, rfl, HA, HK4, BK136, BK141, HB⟩ := hrel
        rcases gk with _ | k4
        · exact absurd HA.out (by simp [spec_cuGood.l1])
        have H := HA.out
        clear HA
        simp only [spec_cuGood.l1] at H
        by_cases c41 : x71_4 < (y145.length : Int)
        ·
         rw [if_pos c41] at H
         have c41b0 : decide (x71_4 < (y145.length : Int)) = true := decide_eq_true c41
         clear c41
         by_cases c42 : 0 ≤ x71_4
         case neg => rw [if_neg c42] at H; exact absurd H (by simp)
         rw [if_pos c42] at H
         have c42b0 : decide (0 ≤ x71_4) = true := decide_eq_true c42
         clear c42
         by_cases c43 : x71_4 < (y145.length : Int)
         case neg => rw [if_neg c43] at H; exact absurd H (by simp)
         rw [if_pos c43] at H
         have c43b0 : decide (x71_4 < (y145.length : Int)) = true := decide_eq_true c43
         clear c43
         have HC44 := As_ H
         clear H
         have p149 : 0 ≤ (x71_4 : Int) := of_decide_eq_true (by first | (with_reducible assumption) | assumption)
         have q149 : x71_4 < (y145.length : Int) := of_decide_eq_true (by first | (with_reducible assumption) | assumption)
         obtain ⟨ad149, e149, hx149_0, hx149_1, hx149_2⟩ := at_T87 HR148.out x71_4 p149 q149
         obtain rfl : ad140 = ad149 := (by injection e149)
         replace hx149_0 := pw_cell_below HB.out hx149_0
         replace hx149_1 := pw_cell_below HB.out hx149_1
         replace hx149_2 := pw_cell_below HB.out hx149_2
         replace p149 := eq_true p149
         replace q149 := eq_true q149
         go_upto_region 13 with (first | ((with_reducible refine gate_dst (N := 7) rfl ?_); (try (refine gate_guard (by rfl) ?_; dsimp only)); refine box_event rfl (N := 7) rfl (cs := #[.int .i64 0, .int .i64 0, .int .i64 0]) (t := 87) ?hr ?_; (case hr => first | (go_simp; done) | (go_simp; rfl)); intro gb150 hg w45 hbox hb; have BK150 := As_ (hbox); have hW_ := bel_ w hb (by repeat (first | (with_reducible first | exact HB.out | apply ba_ | apply bn_ | apply bd_ | refine below_setA ?_ (by assumption)) | exact HB.out)); have GE150 := As_ (gesz hg hW_); have NB136_150 := As_ (ne_lt hg BK136.out); have NB150_136 := As_ (ne_gt hg BK136.out); have NB141_150 := As_ (ne_lt hg BK141.out); have NB150_141 := As_ (ne_gt hg BK141.out); replace BK136 := As_ (blk_b hb BK136.out); replace BK141 := As_ (blk_b hb BK141.out); replace HB := As_ (below_step hW_ hb); clear hW_ hb hbox hg; have hnb46 := NB150_136.out; have hnc46 := NB136_150.out; have hnb47 := NB150_141.out; have hnc47 := NB141_150.out; obtain ⟨hcz48_0, hcz48_1, hcz48_2⟩ := c3_ (w := w45) BK150.out; obtain ⟨hfz48_0, hfz48_1, hfz48_2⟩ := z3_ BK150.out))
         (try simp only [Act.put, sib_, sc0_, sc1_])
         go_cut [113] (fun v113 wc => ∃ (kq : Nat) (x113_43 : Bool), v113 = .bool x113_43 ∧ Aside0 (spec_cuGood.j4 kq (wrap64 (x3_2 + (wrap64 (((rd_T87 l0_2 x28_2).f2) * ((rd_T87 l0_2 x28_2).f2))))) x28_2 x71_4 l0_2 (l0_2.length : Int) x28_2 y145 (y145.length : Int) x71_4 x113_43 a0_0 a0_1 l0_2 ((rd_T87 l0_2 x28_2).f0) ((rd_T87 l0_2 x28_2).f1) ((rd_T87 l0_2 x28_2).f2) ((rd_T87 y145 x71_4).f0) ((rd_T87 y145 x71_4).f1) ((rd_T87 y145 x71_4).f2) = some r) ∧ Aside0 (kq ≤ k4) ∧ Aside0 (wc.heap[gb136]? = some (.cells #[.int .i64 a0_0, .int .i64 a0_1, (.slice (some ad140) l0_2.length c0_2)] 31 (0, 0))) ∧ Aside0 (wc.heap[gb141]? = some (.cells #[.int .i64 ((rd_T87 l0_2 x28_2).f0), .int .i64 ((rd_T87 l0_2 x28_2).f1), .int .i64 ((rd_T87 l0_2 x28_2).f2)] 87 (0, 0))) ∧ Aside0 (wc.heap[gb150]? = some (.cells #[.int .i64 ((rd_T87 y145 x71_4).f0), .int .i64 ((rd_T87 y145 x71_4).f1), .int .i64 ((rd_T87 y145 x71_4).f2)] 87 (0, 0))) ∧ Aside0 (Below w.heap.size w wc))
         case first =>
          have H := HC44.out
          clear HC44
          by_cases c49 : ((rd_T87 l0_2 x28_2).f0) < (wrap64 (((rd_T87 y145 x71_4).f0) + ((rd_T87 y145 x71_4).f2)))
          ·
           rw [if_pos c49] at H
           have c49b0 : decide (((rd_T87 l0_2 x28_2).f0) < (wrap64 (((rd_T87 y145 x71_4).f0) + ((rd_T87 y145 x71_4).f2)))) = true := decide_eq_true c49
           clear c49
           (first | rw [c49b0] | (simp only [i64_w, i32_w]; rw [c49b0]) | skip)
           by_cases c50 : ((rd_T87 y145 x71_4).f0) < (wrap64 (((rd_T87 l0_2 x28_2).f0) + ((rd_T87 l0_2 x28_2).f2)))
           ·
            rw [if_pos c50] at H
            have c50b0 : decide (((rd_T87 y145 x71_4).f0) < (wrap64 (((rd_T87 l0_2 x28_2).f0) + ((rd_T87 l0_2 x28_2).f2)))) = true := decide_eq_true c50
            clear c50
            by_cases c51 : ((rd_T87 l0_2 x28_2).f1) < (wrap64 (((rd_T87 y145 x71_4).f1) + ((rd_T87 y145 x71_4).f2)))
            ·
             rw [if_pos c51] at H
             have c51b0 : decide (((rd_T87 l0_2 x28_2).f1) < (wrap64 (((rd_T87 y145 x71_4).f1) + ((rd_T87 y145 x71_4).f2)))) = true := decide_eq_true c51
             clear c51
             have H' := As_ H
             clear H
             have hnb52 := NB141_136.out
             have hnc52 := NB136_141.out
             have hnb53 := NB141_150.out
             have hnc53 := NB150_141.out
             obtain ⟨hcz54_0, hcz54_1, hcz54_2⟩ := c3_ (w := w45) BK141.out
             obtain ⟨hfz54_0, hfz54_1, hfz54_2⟩ := z3_ BK141.out
             have hnb55 := NB150_136.out
             have hnc55 := NB136_150.out
             obtain ⟨hcz56_0, hcz56_1, hcz56_2⟩ := c3_ (w := w45) BK150.out
             obtain ⟨hfz56_0, hfz56_1, hfz56_2⟩ := z3_ BK150.out
             go_wp2
             go_meet
             case rel => exact ⟨_, (decide (((rd_T87 y145 x71_4).f1) < (wrap64 (((rd_T87 l0_2 x28_2).f1) + ((rd_T87 l0_2 x28_2).f2))))), (by first | rfl | (simp; done) | (simp [*]; done)), H', ⟨by have := HJ1.out; have := HK2.out; have := HJ16.out; have := HK4.out; first | omega | exact Nat.le_refl _⟩, ⟨by (with_reducible repeat (first | refine kn_ ?_ _ | refine kd_ ?_ | refine ka_ ?_ _)); refine blk_far ?_ NB136_150.out _; refine blk_far ?_ NB136_150.out _; refine blk_far ?_ NB136_150.out _; (with_reducible repeat (first | refine kn_ ?_ _ | refine kd_ ?_ | refine ka_ ?_ _)); exact BK136.out⟩, ⟨by (with_reducible repeat (first | refine kn_ ?_ _ | refine kd_ ?_ | refine ka_ ?_ _)); refine blk_far ?_ NB141_150.out _; refine blk_far ?_ NB141_150.out _; refine blk_far ?_ NB141_150.out _; (with_reducible repeat (first | refine kn_ ?_ _ | refine kd_ ?_ | refine ka_ ?_ _)); exact BK141.out⟩, ⟨by (with_reducible repeat (first | refine kn_ ?_ _ | refine kd_ ?_ | refine ka_ ?_ _)); refine blk_put (cs := #[.int .i64 ((rd_T87 y145 x71_4).f0), .int .i64 ((rd_T87 y145 x71_4).f1), .int .i64 0]) ?_ 2 _ rfl; refine blk_put (cs := #[.int .i64 ((rd_T87 y145 x71_4).f0), .int .i64 0, .int .i64 0]) ?_ 1 _ rfl; refine blk_put (cs := #[.int .i64 0, .int .i64 0, .int .i64 0]) ?_ 0 _ rfl; (with_reducible repeat (first | refine kn_ ?_ _ | refine kd_ ?_ | refine ka_ ?_ _)); exact BK150.out⟩, ⟨by repeat (first | (with_reducible first | exact HB.out | apply ba_ | apply bn_ | apply bd_ | refine below_setA ?_ (by assumption)) | exact HB.out)⟩⟩
            ·
             rw [if_neg c51] at H
             have c51b0 : decide (((rd_T87 l0_2 x28_2).f1) < (wrap64 (((rd_T87 y145 x71_4).f1) + ((rd_T87 y145 x71_4).f2)))) = false := decide_eq_false c51
             clear c51
             have H' := As_ H
             clear H
             have hnb57 := NB141_136.out
             have hnc57 := NB136_141.out
             have hnb58 := NB141_150.out
             have hnc58 := NB150_141.out
             obtain ⟨hcz59_0, hcz59_1, hcz59_2⟩ := c3_ (w := w45) BK141.out
             obtain ⟨hfz59_0, hfz59_1, hfz59_2⟩ := z3_ BK141.out
             have hnb60 := NB150_136.out
             have hnc60 := NB136_150.out
             obtain ⟨hcz61_0, hcz61_1, hcz61_2⟩ := c3_ (w := w45) BK150.out
             obtain ⟨hfz61_0, hfz61_1, hfz61_2⟩ := z3_ BK150.out
             go_wp2
             go_meet
             case rel => exact ⟨_, (false), (by first | rfl | (simp; done) | (simp [*]; done)), H', ⟨by have := HJ1.out; have := HK2.out; have := HJ16.out; have := HK4.out; first | omega | exact Nat.le_refl _⟩, ⟨by (with_reducible repeat (first | refine kn_ ?_ _ | refine kd_ ?_ | refine ka_ ?_ _)); refine blk_far ?_ NB136_150.out _; refine blk_far ?_ NB136_150.out _; refine blk_far ?_ NB136_150.out _; (with_reducible repeat (first | refine kn_ ?_ _ | refine kd_ ?_ | refine ka_ ?_ _)); exact BK136.out⟩, ⟨by (with_reducible repeat (first | refine kn_ ?_ _ | refine kd_ ?_ | refine ka_ ?_ _)); refine blk_far ?_ NB141_150.out _; refine blk_far ?_ NB141_150.out _; refine blk_far ?_ NB141_150.out _; (with_reducible repeat (first | refine kn_ ?_ _ | refine kd_ ?_ | refine ka_ ?_ _)); exact BK141.out⟩, ⟨by (with_reducible repeat (first | refine kn_ ?_ _ | refine kd_ ?_ | refine ka_ ?_ _)); refine blk_put (cs := #[.int .i64 ((rd_T87 y145 x71_4).f0), .int .i64 ((rd_T87 y145 x71_4).f1), .int .i64 0]) ?_ 2 _ rfl; refine blk_put (cs := #[.int .i64 ((rd_T87 y145 x71_4).f0), .int .i64 0, .int .i64 0]) ?_ 1 _ rfl; refine blk_put (cs := #[.int .i64 0, .int .i64 0, .int .i64 0]) ?_ 0 _ rfl; (with_reducible repeat (first | refine kn_ ?_ _ | refine kd_ ?_ | refine ka_ ?_ _)); exact BK150.out⟩, ⟨by repeat (first | (with_reducible first | exact HB.out | apply ba_ | apply bn_ | apply bd_ | refine below_setA ?_ (by assumption)) | exact HB.out)⟩⟩
           ·
            rw [if_neg c50] at H
            have c50b0 : decide (((rd_T87 y145 x71_4).f0) < (wrap64 (((rd_T87 l0_2 x28_2).f0) + ((rd_T87 l0_2 x28_2).f2)))) = false := decide_eq_false c50
            clear c50
            have H' := As_ H
            clear H
            have hnb62 := NB141_136.out
            have hnc62 := NB136_141.out
            have hnb63 := NB141_150.out
            have hnc63 := NB150_141.out
            obtain ⟨hcz64_0, hcz64_1, hcz64_2⟩ := c3_ (w := w45) BK141.out
            obtain ⟨hfz64_0, hfz64_1, hfz64_2⟩ := z3_ BK141.out
            have hnb65 := NB150_136.out
            have hnc65 := NB136_150.out
            obtain ⟨hcz66_0, hcz66_1, hcz66_2⟩ := c3_ (w := w45) BK150.out
            obtain ⟨hfz66_0, hfz66_1, hfz66_2⟩ := z3_ BK150.out
            go_wp2
            go_meet
            case rel => exact ⟨_, (false), (by first | rfl | (simp; done) | (simp [*]; done)), H', ⟨by have := HJ1.out; have := HK2.out; have := HJ16.out; have := HK4.out; first | omega | exact Nat.le_refl _⟩, ⟨by (with_reducible repeat (first | refine kn_ ?_ _ | refine kd_ ?_ | refine ka_ ?_ _)); refine blk_far ?_ NB136_150.out _; refine blk_far ?_ NB136_150.out _; refine blk_far ?_ NB136_150.out _; (with_reducible repeat (first | refine kn_ ?_ _ | refine kd_ ?_ | refine ka_ ?_ _)); exact BK136.out⟩, ⟨by (with_reducible repeat (first | refine kn_ ?_ _ | refine kd_ ?_ | refine ka_ ?_ _)); refine blk_far ?_ NB141_150.out _; refine blk_far ?_ NB141_150.out _; refine blk_far ?_ NB141_150.out _; (with_reducible repeat (first | refine kn_ ?_ _ | refine kd_ ?_ | refine ka_ ?_ _)); exact BK141.out⟩, ⟨by (with_reducible repeat (first | refine kn_ ?_ _ | refine kd_ ?_ | refine ka_ ?_ _)); refine blk_put (cs := #[.int .i64 ((rd_T87 y145 x71_4).f0), .int .i64 ((rd_T87 y145 x71_4).f1), .int .i64 0]) ?_ 2 _ rfl; refine blk_put (cs := #[.int .i64 ((rd_T87 y145 x71_4).f0), .int .i64 0, .int .i64 0]) ?_ 1 _ rfl; refine blk_put (cs := #[.int .i64 0, .int .i64 0, .int .i64 0]) ?_ 0 _ rfl; (with_reducible repeat (first | refine kn_ ?_ _ | refine kd_ ?_ | refine ka_ ?_ _)); exact BK150.out⟩, ⟨by repeat (first | (with_reducible first | exact HB.out | apply ba_ | apply bn_ | apply bd_ | refine below_setA ?_ (by assumption)) | exact HB.out)⟩⟩
          ·
           rw [if_neg c49] at H
           have c49b0 : decide (((rd_T87 l0_2 x28_2).f0) < (wrap64 (((rd_T87 y145 x71_4).f0) + ((rd_T87 y145 x71_4).f2)))) = false := decide_eq_false c49
           clear c49
           (first | rw [c49b0] | (simp only [i64_w, i32_w]; rw [c49b0]) | skip)
           have H' := As_ H
           clear H
           have hnb67 := NB141_136.out
           have hnc67 := NB136_141.out
           have hnb68 := NB141_150.out
           have hnc68 := NB150_141.out
           obtain ⟨hcz69_0, hcz69_1, hcz69_2⟩ := c3_ (w := w45) BK141.out
           obtain ⟨hfz69_0, hfz69_1, hfz69_2⟩ := z3_ BK141.out
           have hnb70 := NB150_136.out
           have hnc70 := NB136_150.out
           obtain ⟨hcz71_0, hcz71_1, hcz71_2⟩ := c3_ (w := w45) BK150.out
           obtain ⟨hfz71_0, hfz71_1, hfz71_2⟩ := z3_ BK150.out
           go_wp2
           go_meet
           case rel => exact ⟨_, (false), (by first | rfl | (simp; done) | (simp [*]; done)), H', ⟨by have := HJ1.out; have := HK2.out; have := HJ16.out; have := HK4.out; first | omega | exact Nat.le_refl _⟩, ⟨by (with_reducible repeat (first | refine kn_ ?_ _ | refine kd_ ?_ | refine ka_ ?_ _)); refine blk_far ?_ NB136_150.out _; refine blk_far ?_ NB136_150.out _; refine blk_far ?_ NB136_150.out _; (with_reducible repeat (first | refine kn_ ?_ _ | refine kd_ ?_ | refine ka_ ?_ _)); exact BK136.out⟩, ⟨by (with_reducible repeat (first | refine kn_ ?_ _ | refine kd_ ?_ | refine ka_ ?_ _)); refine blk_far ?_ NB141_150.out _; refine blk_far ?_ NB141_150.out _; refine blk_far ?_ NB141_150.out _; (with_reducible repeat (first | refine kn_ ?_ _ | refine kd_ ?_ | refine ka_ ?_ _)); exact BK141.out⟩, ⟨by (with_reducible repeat (first | refine kn_ ?_ _ | refine kd_ ?_ | refine ka_ ?_ _)); refine blk_put (cs := #[.int .i64 ((rd_T87 y145 x71_4).f0), .int .i64 ((rd_T87 y145 x71_4).f1), .int .i64 0]) ?_ 2 _ rfl; refine blk_put (cs := #[.int .i64 ((rd_T87 y145 x71_4).f0), .int .i64 0, .int .i64 0]) ?_ 1 _ rfl; refine blk_put (cs := #[.int .i64 0, .int .i64 0, .int .i64 0]) ?_ 0 _ rfl; (with_reducible repeat (first | refine kn_ ?_ _ | refine kd_ ?_ | refine ka_ ?_ _)); exact BK150.out⟩, ⟨by repeat (first | (with_reducible first | exact HB.out | apply ba_ | apply bn_ | apply bd_ | refine below_setA ?_ (by assumption)) | exact HB.out)⟩⟩
         case rest =>
          clear HC44
          try clear c1; try clear p1
          try clear q1
          try clear hx1; try clear c2; try clear p2; try clear c3; try clear c4
          try clear q4
          try clear c5; try clear c6; try clear p6; try clear c7; try clear c12; try clear c14; try clear c14b0; try clear p14
          try clear q14
          try clear hx14; try clear c15; try clear c15b0; try clear c16; try clear c16b0; try clear c19; try clear c22; try clear c24; try clear c26; try clear c29; try clear c32; try clear c34; try clear c35; try clear c35b0; try clear c35b1; try clear c36; try clear c36b0; try clear c36b1; try clear c37
          try clear q40
          try clear c41; try clear c41b0; try clear c42; try clear c42b0; try clear c43; try clear c43b0; try clear c46; try clear c47; try clear c49; try clear c49b0; try clear c50; try clear c50b0; try clear c51; try clear c51b0; try clear c52; try clear c53; try clear c55; try clear c57; try clear c58; try clear c60; try clear c62; try clear c63; try clear p64; try clear c65; try clear c67; try clear c68; try clear c70; try clear hcz10_0 hcz10_1 hcz10_2; try clear hcz11_0 hcz11_1 hcz11_2; try clear hcz13_0 hcz13_1 hcz13_2; try clear hcz20_0 hcz20_1 hcz20_2; try clear hcz27_0 hcz27_1 hcz27_2; try clear hcz28_0 hcz28_1 hcz28_2; try clear hcz30_0 hcz30_1 hcz30_2; try clear hcz31_0 hcz31_1 hcz31_2; try clear hcz33_0 hcz33_1 hcz33_2; try clear hcz38_0 hcz38_1 hcz38_2; try clear hcz39_0 hcz39_1 hcz39_2; try clear hcz48_0 hcz48_1 hcz48_2; try clear hcz54_0 hcz54_1 hcz54_2; try clear hcz56_0 hcz56_1 hcz56_2; try clear hcz59_0 hcz59_1 hcz59_2; try clear hcz61_0 hcz61_1 hcz61_2; try clear hcz64_0 hcz64_1 hcz64_2; try clear hcz66_0 hcz66_1 hcz66_2; try clear hcz69_0 hcz69_1 hcz69_2; try clear hcz71_0 hcz71_1 hcz71_2; try clear hcz9_0 hcz9_1 hcz9_2; try clear hfz10_0 hfz10_1 hfz10_2; try clear hfz11_0 hfz11_1 hfz11_2; try clear hfz13_0 hfz13_1 hfz13_2; try clear hfz20_0 hfz20_1 hfz20_2; try clear hfz27_0 hfz27_1 hfz27_2; try clear hfz28_0 hfz28_1 hfz28_2; try clear hfz30_0 hfz30_1 hfz30_2; try clear hfz31_0 hfz31_1 hfz31_2; try clear hfz33_0 hfz33_1 hfz33_2; try clear hfz38_0 hfz38_1 hfz38_2; try clear hfz39_0 hfz39_1 hfz39_2; try clear hfz48_0 hfz48_1 hfz48_2; try clear hfz54_0 hfz54_1 hfz54_2; try clear hfz56_0 hfz56_1 hfz56_2; try clear hfz59_0 hfz59_1 hfz59_2; try clear hfz61_0 hfz61_1 hfz61_2; try clear hfz64_0 hfz64_1 hfz64_2; try clear hfz66_0 hfz66_1 hfz66_2; try clear hfz69_0 hfz69_1 hfz69_2; try clear hfz71_0 hfz71_1 hfz71_2; try clear hfz9_0 hfz9_1 hfz9_2; try clear hx140_0; try clear hx140_1; try clear hx140_2; try clear hx149_0; try clear hx149_1; try clear hx149_2; try clear p1; try clear p14; try clear p140; try clear p149; try clear p2; try clear p6
          try clear q1
          try clear q14
          try clear q140
          try clear q149
          try clear q4
          try clear q40
          obtain ⟨kq, x113_43, rfl, HA, HJ43, BK136, BK141, BK150, HB⟩ := hcut
          rcases kq with _ | kj43
          · exact absurd HA.out (by simp [spec_cuGood.j4])
          have H := HA.out
          clear HA
          simp only [spec_cuGood.j4] at H
          by_cases c72 : x113_43 = true
          ·
           subst c72
           have H1 : (some false) = some r := by rw [if_pos rfl] at H; exact H
           clear H
           have H := H1
           clear H1
           obtain rfl := Option.some.inj H
           go_wp2
           go_ret
           exact ⟨by first | rfl | (simp <;> rfl) | (simp [*] <;> rfl), by repeat (first | (with_reducible first | exact HB.out | apply ba_ | apply bn_ | apply bd_ | refine below_setA ?_ (by assumption)) | exact HB.out)⟩
          ·
           replace c72 := Bool.eq_false_iff.mpr c72
           subst c72
           have H1 : (if x71_4 = (wrap64 (x28_2 - 1)) then ((spec_cuLess.f ((rd_T87 y145 x71_4).f0) ((rd_T87 y145 x71_4).f1) ((rd_T87 y145 x71_4).f2) ((rd_T87 l0_2 x28_2).f0) ((rd_T87 l0_2 x28_2).f1) ((rd_T87 l0_2 x28_2).f2)).bind fun t151 => (if t151 = true then (spec_cuGood.l1 kj43 (wrap64 (x3_2 + (wrap64 (((rd_T87 l0_2 x28_2).f2) * ((rd_T87 l0_2 x28_2).f2))))) x28_2 l0_2 (l0_2.length : Int) x28_2 y145 (y145.length : Int) (wrap64 (x71_4 + 1)) a0_0 a0_1 l0_2 ((rd_T87 l0_2 x28_2).f0) ((rd_T87 l0_2 x28_2).f1) ((rd_T87 l0_2 x28_2).f2)) else (some false))) else (spec_cuGood.l1 kj43 (wrap64 (x3_2 + (wrap64 (((rd_T87 l0_2 x28_2).f2) * ((rd_T87 l0_2 x28_2).f2))))) x28_2 l0_2 (l0_2.length : Int) x28_2 y145 (y145.length : Int) (wrap64 (x71_4 + 1)) a0_0 a0_1 l0_2 ((rd_T87 l0_2 x28_2).f0) ((rd_T87 l0_2 x28_2).f1) ((rd_T87 l0_2 x28_2).f2))) = some r := by rw [if_neg (show ¬ (false = true) by decide)] at H; exact H
           clear H
           have H := H1
           clear H1
           by_cases c73 : x71_4 = (wrap64 (x28_2 - 1))
           ·
            rw [if_pos c73] at H
            have c73b0 : (x71_4 == (wrap64 (x28_2 - 1))) = true := beq_iff_eq.mpr c73
            have c73b1 : (x71_4 != (wrap64 (x28_2 - 1))) = false := bne_eq_false_iff_eq.mpr c73
            clear c73
            replace H := Option.bind_eq_some_iff.mp H
            obtain ⟨t151, A740, H⟩ := H
            try dsimp only at H
            have A74 := As_ A740
            clear A740
            by_cases c75 : t151 = true
            ·
             subst c75
             have H1 : (spec_cuGood.l1 kj43 (wrap64 (x3_2 + (wrap64 (((rd_T87 l0_2 x28_2).f2) * ((rd_T87 l0_2 x28_2).f2))))) x28_2 l0_2 (l0_2.length : Int) x28_2 y145 (y145.length : Int) (wrap64 (x71_4 + 1)) a0_0 a0_1 l0_2 ((rd_T87 l0_2 x28_2).f0) ((rd_T87 l0_2 x28_2).f1) ((rd_T87 l0_2 x28_2).f2)) = some r := by rw [if_pos rfl] at H; exact H
             clear H
             have H := H1
             clear H1
             have H' := As_ H
             clear H
             have hnb76 := NB150_136.out
             have hnc76 := NB136_150.out
             have hnb77 := NB150_141.out
             have hnc77 := NB141_150.out
             obtain ⟨hcz78_0, hcz78_1, hcz78_2⟩ := c3_ (w := wc) BK150.out
             obtain ⟨hfz78_0, hfz78_1, hfz78_2⟩ := z3_ BK150.out
             have hnb79 := NB141_136.out
             have hnc79 := NB136_141.out
             obtain ⟨hcz80_0, hcz80_1, hcz80_2⟩ := c3_ (w := wc) BK141.out
             obtain ⟨hfz80_0, hfz80_1, hfz80_2⟩ := z3_ BK141.out
             go_wp2_with (first | (go_at_call 81; (with_reducible refine (spec_cuLess.calls ((rd_T87 y145 x71_4).f0) ((rd_T87 y145 x71_4).f1) ((rd_T87 y145 x71_4).f2) ((rd_T87 l0_2 x28_2).f0) ((rd_T87 l0_2 x28_2).f1) ((rd_T87 l0_2 x28_2).f2) true _ A74.out).mono ?_); rintro e w81 ⟨rfl, hb⟩; replace BK136 := As_ (blk_b hb BK136.out); replace BK141 := As_ (blk_b hb BK141.out); replace BK150 := As_ (blk_b hb BK150.out); replace HB := As_ (below_step (by repeat (first | (with_reducible first | exact HB.out | apply ba_ | apply bn_ | apply bd_ | refine below_setA ?_ (by assumption)) | exact HB.out)) hb); (try clear hb)))
             go_roundg kj43
             case measure => have := HJ1.out; have := HK2.out; have := HJ16.out; have := HK4.out; have := HJ43.out; omega
             case rel => exact ⟨(wrap64 (x71_4 + 1)), (by first | rfl | (simp; done) | (simp [*]; done)), H', ⟨by have := HJ1.out; have := HK2.out; have := HJ16.out; have := HK4.out; have := HJ43.out; omega⟩, ⟨by (with_reducible repeat (first | refine kn_ ?_ _ | refine kd_ ?_ | refine ka_ ?_ _)); exact BK136.out⟩, ⟨by (with_reducible repeat (first | refine kn_ ?_ _ | refine kd_ ?_ | refine ka_ ?_ _)); exact BK141.out⟩, ⟨by repeat (first | (with_reducible first | exact HB.out | apply ba_ | apply bn_ | apply bd_ | refine below_setA ?_ (by assumption)) | exact HB.out)⟩⟩
            ·
             replace c75 := Bool.eq_false_iff.mpr c75
             subst c75
             have H1 : (some false) = some r := by rw [if_neg (show ¬ (false = true) by decide)] at H; exact H
             clear H
             have H := H1
             clear H1
             obtain rfl := Option.some.inj H
             have hnb82 := NB150_136.out
             have hnc82 := NB136_150.out
             have hnb83 := NB150_141.out
             have hnc83 := NB141_150.out
             obtain ⟨hcz84_0, hcz84_1, hcz84_2⟩ := c3_ (w := wc) BK150.out
             obtain ⟨hfz84_0, hfz84_1, hfz84_2⟩ := z3_ BK150.out
             have hnb85 := NB141_136.out
             have hnc85 := NB136_141.out
             obtain ⟨hcz86_0, hcz86_1, hcz86_2⟩ := c3_ (w := wc) BK141.out
             obtain ⟨hfz86_0, hfz86_1, hfz86_2⟩ := z3_ BK141.out
             go_wp2_with (first | (go_at_call 81; (with_reducible refine (spec_cuLess.calls ((rd_T87 y145 x71_4).f0) ((rd_T87 y145 x71_4).f1) ((rd_T87 y145 x71_4).f2) ((rd_T87 l0_2 x28_2).f0) ((rd_T87 l0_2 x28_2).f1) ((rd_T87 l0_2 x28_2).f2) false _ A74.out).mono ?_); rintro e w87 ⟨rfl, hb⟩; replace BK136 := As_ (blk_b hb BK136.out); replace BK141 := As_ (blk_b hb BK141.out); replace BK150 := As_ (blk_b hb BK150.out); replace HB := As_ (below_step (by repeat (first | (with_reducible first | exact HB.out | apply ba_ | apply bn_ | apply bd_ | refine below_setA ?_ (by assumption)) | exact HB.out)) hb); (try clear hb)))
             go_ret
             exact ⟨by first | rfl | (simp <;> rfl) | (simp [*] <;> rfl), by repeat (first | (with_reducible first | exact HB.out | apply ba_ | apply bn_ | apply bd_ | refine below_setA ?_ (by assumption)) | exact HB.out)⟩
           ·
            rw [if_neg c73] at H
            have c73b0 : (x71_4 == (wrap64 (x28_2 - 1))) = false := beq_eq_false_iff_ne.mpr c73
            have c73b1 : (x71_4 != (wrap64 (x28_2 - 1))) = true := bne_iff_ne.mpr c73
            have H' := As_ H
            clear H
            go_wp2
            go_roundg kj43
            case measure => have := HJ1.out; have := HK2.out; have := HJ16.out; have := HK4.out; have := HJ43.out; omega
            case rel => exact ⟨(wrap64 (x71_4 + 1)), (by first | rfl | (simp; done) | (simp [*]; done)), H', ⟨by have := HJ1.out; have := HK2.out; have := HJ16.out; have := HK4.out; have := HJ43.out; omega⟩, ⟨by (with_reducible repeat (first | refine kn_ ?_ _ | refine kd_ ?_ | refine ka_ ?_ _)); exact BK136.out⟩, ⟨by (with_reducible repeat (first | refine kn_ ?_ _ | refine kd_ ?_ | refine ka_ ?_ _)); exact BK141.out⟩, ⟨by repeat (first | (with_reducible first | exact HB.out | apply ba_ | apply bn_ | apply bd_ | refine below_setA ?_ (by assumption)) | exact HB.out)⟩⟩
        ·
         rw [if_neg c41] at H
         have c41b0 : decide (x71_4 < (y145.length : Int)) = false := decide_eq_false c41
         clear c41
         have H' := As_ H
         clear H
         go_wp2
         go_roundg k4
         case measure => have := HJ1.out; have := HK2.out; have := HJ16.out; have := HK4.out; omega
         case rel => exact ⟨((wrap64 (x3_2 + (wrap64 (((rd_T87 l0_2 x28_2).f2) * ((rd_T87 l0_2 x28_2).f2)))))), (wrap64 (x28_2 + 1)), (by first | rfl | (simp; done) | (simp [*]; done)), (by first | rfl | (simp; done) | (simp [*]; done)), H', ⟨by have := HJ1.out; have := HK2.out; have := HJ16.out; have := HK4.out; omega⟩, ⟨by (with_reducible repeat (first | refine kn_ ?_ _ | refine kd_ ?_ | refine ka_ ?_ _)); exact BK136.out⟩, ⟨by repeat (first | (with_reducible first | exact HB.out | apply ba_ | apply bn_ | apply bd_ | refine below_setA ?_ (by assumption)) | exact HB.out)⟩⟩
    ·
     rw [if_neg c14] at H
     have c14b0 : decide (x28_2 < (l0_2.length : Int)) = false := decide_eq_false c14
     clear c14
     obtain rfl := Option.some.inj H
     obtain ⟨hcz88_0, hcz88_1, hcz88_2⟩ := c3_ (w := wr) BK136.out
     obtain ⟨hfz88_0, hfz88_1, hfz88_2⟩ := z3_ BK136.out
     go_wp2
     go_ret
     exact ⟨by first | rfl | (simp <;> rfl) | (simp [*] <;> rfl), by repeat (first | (with_reducible first | exact HB.out | apply ba_ | apply bn_ | apply bd_ | refine bs_ ?_ GE136.out) | exact HB.out)⟩

end Go.Proofs.Ytipiaiolhhnnhaa.PFnExactMakePuzzle
