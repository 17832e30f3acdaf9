-- Written by a program of this session (wip/tools/pg.py) out of the translation.
import Derived.Test.YtipiaiolhhnnhaaPFnExactMakePuzzlex0
import Derived.Test.YtipiaiolhhnnhaaPFnExactMakePuzzlex15
namespace Go.Proofs.Ytipiaiolhhnnhaa.PFnExactMakePuzzle
open Go.RowKit Go.Proofs.YtipiaiolhhnnhaaW.PrintWords Go.Proofs.YtipiaiolhhnnhaaW.PrintLast Go.Proofs.YtipiaiolhhnnhaaW.PrintMore Go.Proofs.YtipiaiolhhnnhaaH
attribute [local go_sem] max2_int min2_int max_two min_two max_three min_three max_four min_four   -- for this text's walks alone
set_option linter.unusedVariables false
set_option linter.unusedSimpArgs false

/-! ### impl_Cut_crosses: function 75 -/
mutual
def impl_Cut_crosses.l0 : Nat → List (List Int) → List (S87) → Int → Int → Int → Int → List (S87) → Option ((List (List Int)))
 | 0, _, _, _, _, _, _, _ => none
 | k + 1, x3, x11, x12, x13, x306000, x306001, x306002 => if x13 < x12 then (if 0 ≤ x13 then (if x13 < (x11.length : Int) then (if ((rd_T87 x11 x13).f0) = 0 then (impl_Cut_crosses.j1 k x3 x11 x12 x13 true x306000 x306001 x306002 ((rd_T87 x11 x13).f0) ((rd_T87 x11 x13).f1) ((rd_T87 x11 x13).f2)) else (impl_Cut_crosses.j1 k x3 x11 x12 x13 (((rd_T87 x11 x13).f1) == 0) x306000 x306001 x306002 ((rd_T87 x11 x13).f0) ((rd_T87 x11 x13).f1) ((rd_T87 x11 x13).f2))) else (none)) else (none)) else (some x3)
def impl_Cut_crosses.j1 : Nat → List (List Int) → List (S87) → Int → Int → Bool → Int → Int → List (S87) → Int → Int → Int → Option ((List (List Int)))
 | 0, _, _, _, _, _, _, _, _, _, _, _ => none
 | k + 1, x3, x11, x12, x13, x24, x306000, x306001, x306002, x311000, x311001, x311002 => if x24 = true then (impl_Cut_crosses.l0 k x3 x11 x12 (wrap64 (x13 + 1)) x306000 x306001 x306002) else (impl_Cut_crosses.l1 k x3 0 x11 x12 x13 x306002 (x306002.length : Int) 0 x306000 x306001 x306002 x311000 x311001 x311002)
def impl_Cut_crosses.l1 : Nat → List (List Int) → Int → List (S87) → Int → Int → List (S87) → Int → Int → Int → Int → List (S87) → Int → Int → Int → Option ((List (List Int)))
 | 0, _, _, _, _, _, _, _, _, _, _, _, _, _, _ => none
 | k + 1, x3, x6, x11, x12, x13, x26, x27, x28, x306000, x306001, x306002, x311000, x311001, x311002 => if x28 < x27 then (if 0 ≤ x28 then (if x28 < (x26.length : Int) then (if ((rd_T87 x26 x28).f0) = x311000 then (if ((rd_T87 x26 x28).f1) = x311001 then ((impl_bit.f true).bind fun t313 => (impl_Cut_crosses.l1 k x3 (wrap64 (x6 + t313)) x11 x12 x13 x26 x27 (wrap64 (x28 + 1)) x306000 x306001 x306002 x311000 x311001 x311002)) else ((impl_bit.f ((wrap64 (((rd_T87 x26 x28).f1) + ((rd_T87 x26 x28).f2))) == x311001)).bind fun t314 => (impl_Cut_crosses.l1 k x3 (wrap64 (x6 + t314)) x11 x12 x13 x26 x27 (wrap64 (x28 + 1)) x306000 x306001 x306002 x311000 x311001 x311002))) else (if (wrap64 (((rd_T87 x26 x28).f0) + ((rd_T87 x26 x28).f2))) = x311000 then (if ((rd_T87 x26 x28).f1) = x311001 then ((impl_bit.f true).bind fun t315 => (impl_Cut_crosses.l1 k x3 (wrap64 (x6 + t315)) x11 x12 x13 x26 x27 (wrap64 (x28 + 1)) x306000 x306001 x306002 x311000 x311001 x311002)) else ((impl_bit.f ((wrap64 (((rd_T87 x26 x28).f1) + ((rd_T87 x26 x28).f2))) == x311001)).bind fun t316 => (impl_Cut_crosses.l1 k x3 (wrap64 (x6 + t316)) x11 x12 x13 x26 x27 (wrap64 (x28 + 1)) x306000 x306001 x306002 x311000 x311001 x311002))) else ((impl_bit.f false).bind fun t317 => (impl_Cut_crosses.l1 k x3 (wrap64 (x6 + t317)) x11 x12 x13 x26 x27 (wrap64 (x28 + 1)) x306000 x306001 x306002 x311000 x311001 x311002)))) else (none)) else (none)) else (if x6 = 4 then (if x3.length < 5864062014805 then (impl_Cut_crosses.l0 k (x3 ++ [(([x311000, x311001] : List Int))]) x11 x12 (wrap64 (x13 + 1)) x306000 x306001 x306002) else (none)) else (impl_Cut_crosses.l0 k x3 x11 x12 (wrap64 (x13 + 1)) x306000 x306001 x306002))
end
def impl_Cut_crosses.f (k : Nat) (a0_0 : Int) (a0_1 : Int) (l0_2 : List (S87)) : Option ((List (List Int))) := impl_Cut_crosses.l0 k (([] : List (List Int))) l0_2 (l0_2.length : Int) 0 a0_0 a0_1 l0_2
theorem impl_Cut_crosses.mono_l : ∀ k, (∀ y0 y1 y2 y3 y4 y5 y6, LeO (impl_Cut_crosses.l0 k y0 y1 y2 y3 y4 y5 y6) (impl_Cut_crosses.l0 (k + 1) y0 y1 y2 y3 y4 y5 y6)) ∧ (∀ y0 y1 y2 y3 y4 y5 y6 y7 y8 y9 y10, LeO (impl_Cut_crosses.j1 k y0 y1 y2 y3 y4 y5 y6 y7 y8 y9 y10) (impl_Cut_crosses.j1 (k + 1) y0 y1 y2 y3 y4 y5 y6 y7 y8 y9 y10)) ∧ (∀ y0 y1 y2 y3 y4 y5 y6 y7 y8 y9 y10 y11 y12 y13, LeO (impl_Cut_crosses.l1 k y0 y1 y2 y3 y4 y5 y6 y7 y8 y9 y10 y11 y12 y13) (impl_Cut_crosses.l1 (k + 1) y0 y1 y2 y3 y4 y5 y6 y7 y8 y9 y10 y11 y12 y13))
 | 0 => ⟨fun _ _ _ _ _ _ _ r h => by simp [impl_Cut_crosses.l0] at h, fun _ _ _ _ _ _ _ _ _ _ _ r h => by simp [impl_Cut_crosses.j1] at h, fun _ _ _ _ _ _ _ _ _ _ _ _ _ _ r h => by simp [impl_Cut_crosses.l1] at h⟩
 | k + 1 => by
  obtain ⟨ih0, ih1, ih2⟩ := impl_Cut_crosses.mono_l k
  refine ⟨?_, ?_, ?_⟩
  ·
   intro y0 y1 y2 y3 y4 y5 y6
   unfold impl_Cut_crosses.l0
   repeat' first
   | (with_reducible exact ih0 _ _ _ _ _ _ _)
   | (with_reducible exact ih1 _ _ _ _ _ _ _ _ _ _ _)
   | (with_reducible exact ih2 _ _ _ _ _ _ _ _ _ _ _ _ _ _)
   | (with_reducible exact LeO.refl _)
   | (with_reducible exact LeO.none _)
   | (with_reducible refine LeO.ite ?_ ?_)
   | (with_reducible refine LeO.bind ?_ (fun _ => ?_))
   | exact ih0 _ _ _ _ _ _ _
   | exact ih1 _ _ _ _ _ _ _ _ _ _ _
   | exact ih2 _ _ _ _ _ _ _ _ _ _ _ _ _ _
   | exact LeO.none _
   | refine LeO.ite ?_ ?_
   | refine LeO.bind ?_ (fun _ => ?_)
  ·
   intro y0 y1 y2 y3 y4 y5 y6 y7 y8 y9 y10
   unfold impl_Cut_crosses.j1
   repeat' first
   | (with_reducible exact ih0 _ _ _ _ _ _ _)
   | (with_reducible exact ih1 _ _ _ _ _ _ _ _ _ _ _)
   | (with_reducible exact ih2 _ _ _ _ _ _ _ _ _ _ _ _ _ _)
   | (with_reducible exact LeO.refl _)
   | (with_reducible exact LeO.none _)
   | (with_reducible refine LeO.ite ?_ ?_)
   | (with_reducible refine LeO.bind ?_ (fun _ => ?_))
   | exact ih0 _ _ _ _ _ _ _
   | exact ih1 _ _ _ _ _ _ _ _ _ _ _
   | exact ih2 _ _ _ _ _ _ _ _ _ _ _ _ _ _
   | exact LeO.none _
   | refine LeO.ite ?_ ?_
   | refine LeO.bind ?_ (fun _ => ?_)
  ·
   intro y0 y1 y2 y3 y4 y5 y6 y7 y8 y9 y10 y11 y12 y13
   unfold impl_Cut_crosses.l1
   repeat' first
   | (with_reducible exact ih0 _ _ _ _ _ _ _)
   | (with_reducible exact ih1 _ _ _ _ _ _ _ _ _ _ _)
   | (with_reducible exact ih2 _ _ _ _ _ _ _ _ _ _ _ _ _ _)
   | (with_reducible exact LeO.refl _)
   | (with_reducible exact LeO.none _)
   | (with_reducible refine LeO.ite ?_ ?_)
   | (with_reducible refine LeO.bind ?_ (fun _ => ?_))
   | exact ih0 _ _ _ _ _ _ _
   | exact ih1 _ _ _ _ _ _ _ _ _ _ _
   | exact ih2 _ _ _ _ _ _ _ _ _ _ _ _ _ _
   | exact LeO.none _
   | refine LeO.ite ?_ ?_
   | refine LeO.bind ?_ (fun _ => ?_)
theorem impl_Cut_crosses.mono : ∀ a0 a1 a2 k, LeO (impl_Cut_crosses.f k a0 a1 a2) (impl_Cut_crosses.f (k + 1) a0 a1 a2) := by
 intro a0 a1 a2 k
 obtain ⟨ih0, ih1, ih2⟩ := impl_Cut_crosses.mono_l k
 unfold impl_Cut_crosses.f
 repeat' first
   | (with_reducible exact ih0 _ _ _ _ _ _ _)
   | (with_reducible exact ih1 _ _ _ _ _ _ _ _ _ _ _)
   | (with_reducible exact ih2 _ _ _ _ _ _ _ _ _ _ _ _ _ _)
   | (with_reducible exact LeO.refl _)
   | (with_reducible exact LeO.none _)
   | (with_reducible refine LeO.ite ?_ ?_)
   | (with_reducible refine LeO.bind ?_ (fun _ => ?_))
   | exact ih0 _ _ _ _ _ _ _
   | exact ih1 _ _ _ _ _ _ _ _ _ _ _
   | exact ih2 _ _ _ _ _ _ _ _ _ _ _ _ _ _
   | exact LeO.none _
   | refine LeO.ite ?_ ?_
   | refine LeO.bind ?_ (fun _ => ?_)
set_option maxHeartbeats 8000000 in
set_option maxRecDepth 100000 in
theorem impl_Cut_crosses.calls (k : Nat) (a0_0 : Int) (a0_1 : Int) (A0_2 : Option Addr) (c0_2 : Nat) (l0_2 : List (S87)) (r : List (List Int)) (w : World) (hr0_2 : Kd.C k87 w A0_2 l0_2.length l0_2) (hc0_2 : l0_2.length ≤ c0_2) (h : impl_Cut_crosses.f k a0_0 a0_1 l0_2 = some r) :
  Calls Try.prog 75 #[.agg #[.int .i64 a0_0, .int .i64 a0_1, .slice A0_2 l0_2.length c0_2]] w fun e w' => ∃ v0_ : Value, e = .returned (v0_) ∧ Kd.S (Kd.slice 3 (Kd.int .i64)) 26 w' w.heap.size (fun _ => True) v0_ r ∧ Below w.heap.size w w' := by
 have hu31 := Try.underlying31
 have hu87 := Try.underlying87
 have HR0_2 := As_ hr0_2
 have HC0_2 := As_ hc0_2
 clear hr0_2 hc0_2
 have HB := As_ (Below.refl w.heap.size w)
 have H : (impl_Cut_crosses.l0 k (([] : List (List Int))) l0_2 (l0_2.length : Int) 0 a0_0 a0_1 l0_2) = some r := h
 clear h
 obtain ⟨y306, hy306⟩ : ∃ y_ : List (List Int), y_ = (([] : List (List Int))) := ⟨_, rfl⟩
 replace H : (impl_Cut_crosses.l0 k y306 l0_2 (l0_2.length : Int) 0 a0_0 a0_1 l0_2) = some r := by first | (rw [hy306]; with_reducible exact H) | (have H2_ := (Option.bind_some _ _).symm.trans H; rw [hy306]; with_reducible exact H2_) | (have H2_ := (Option.bind_some _ _).symm.trans H; with_reducible exact H2_) | with_reducible exact H | (rw [hy306]; exact H) | exact H
 have Ny306 := As_ hy306
 clear hy306
 have H' := As_ H
 clear H
 go_enter Try.func75, Try.ntmps75
 go_wp2_with (first | ((with_reducible refine gate_dst (N := 1) rfl ?_); refine box_event rfl (N := 1) rfl (cs := #[.int .i64 a0_0, .int .i64 a0_1, .slice A0_2 l0_2.length c0_2]) (t := 31) ?hr ?_; (case hr => first | (go_simp; done) | (go_simp; rfl)); intro gb305 hg w2 hbox hb; have BK305 := As_ (hbox); have hW_ := bel_ w hb (by repeat (first | (with_reducible first | exact HB.out | apply ba_ | apply bn_ | apply bd_) | exact HB.out)); have GE305 := As_ (gesz hg hW_); replace HB := As_ (below_step hW_ hb); clear hW_ hb hbox hg) | ((with_reducible refine gate_dst (N := 9) rfl ?_); refine Kd.S_lit (Kd.slice 3 (Kd.int .i64)) _ 26 ?hg (N := 9) ?hd (xs := ([] : List (List Int))) (inner := []) (ok := fun _ => True) (okp := fun _ => True) ?hr ?hp (fun _ hk => hk) trivial (Below.refl _ _) (Nat.le_refl _) (by simp) ?_; (case hd => rfl); (case hg => rfl); (case hr => first | (go_simp; done) | (go_simp; rfl)); (case hp => exact (Reps.none _ _)); intro v307 w3 ho4 hb hg_ hnew_; clear hg_ hnew_; (first | rw [← Ny306.out] at ho4 | (simp only [Int.reduceToNat] at ho4; rw [← Ny306.out] at ho4)); have HO308 := As_ (Kd.S_lower ho4 (below_size (by repeat (first | (with_reducible first | exact HB.out | apply ba_ | apply bn_ | apply bd_ | refine bs_ ?_ GE305.out) | exact HB.out)))); replace BK305 := As_ (blk_b hb BK305.out); replace HB := As_ (below_step (by repeat (first | (with_reducible first | exact HB.out | apply ba_ | apply bn_ | apply bd_ | refine bs_ ?_ GE305.out) | exact HB.out)) hb); clear hb ho4; obtain ⟨hcz5_0, hcz5_1, hcz5_2⟩ := c3_ (w := w3) BK305.out; obtain ⟨hfz5_0, hfz5_1, hfz5_2⟩ := z3_ BK305.out))
 go_loopg [3, 13] k (fun kq v3 v13 w' => ∃ (x3_1 : List (List Int)) (x13_1 : Int), v13 = .int .i64 x13_1 ∧ Aside0 (impl_Cut_crosses.l0 kq x3_1 l0_2 (l0_2.length : Int) x13_1 a0_0 a0_1 l0_2 = some r) ∧ Aside0 (kq ≤ k) ∧ Aside0 (Kd.S (Kd.slice 3 (Kd.int .i64)) 26 w' w.heap.size (fun _ => True) v3 x3_1) ∧ Aside0 (w'.heap[gb305]? = some (.cells #[.int .i64 a0_0, .int .i64 a0_1, (.slice A0_2 l0_2.length c0_2)] 31 (0, 0))) ∧ Aside0 (Below w.heap.size w w'))
 case atStart => exact ⟨(y306), (0), (by first | rfl | (simp; done) | (simp [*]; done)), H', ⟨Nat.le_refl _⟩, ⟨by (with_reducible repeat (first | apply Kd.S_alloc | apply Kd.S_drewN | apply Kd.S_drew)); exact HO308.out⟩, ⟨by (with_reducible repeat (first | refine kn_ ?_ _ | refine kd_ ?_ | refine ka_ ?_ _)); exact BK305.out⟩, ⟨by repeat (first | (with_reducible first | exact HB.out | apply ba_ | apply bn_ | apply bd_ | refine bs_ ?_ GE305.out) | exact HB.out)⟩⟩
 case round =>
  clear H'
  try clear p2; try clear hcz5_0 hcz5_1 hcz5_2; try clear hfz5_0 hfz5_1 hfz5_2
  obtain ⟨x3_1, x13_1, rfl, HA, HK1, HO_3, BK305, HB⟩ := hrel
  rcases gk with _ | k1
  · exact absurd HA.out (by simp [impl_Cut_crosses.l0])
  have H := HA.out
  clear HA
  simp only [impl_Cut_crosses.l0] at H
  by_cases c6 : x13_1 < (l0_2.length : Int)
  ·
   rw [if_pos c6] at H
   have c6b0 : decide (x13_1 < (l0_2.length : Int)) = true := decide_eq_true c6
   clear c6
   by_cases c7 : 0 ≤ x13_1
   case neg => rw [if_neg c7] at H; exact absurd H (by simp)
   rw [if_pos c7] at H
   have c7b0 : decide (0 ≤ x13_1) = true := decide_eq_true c7
   clear c7
   by_cases c8 : x13_1 < (l0_2.length : Int)
   case neg => rw [if_neg c8] at H; exact absurd H (by simp)
   rw [if_pos c8] at H
   have c8b0 : decide (x13_1 < (l0_2.length : Int)) = true := decide_eq_true c8
   clear c8
   have HC9 := As_ H
   clear H
   have p309 : 0 ≤ (x13_1 : Int) := of_decide_eq_true (by first | (with_reducible assumption) | assumption)
   have q309 : x13_1 < (l0_2.length : Int) := of_decide_eq_true (by first | (with_reducible assumption) | assumption)
   obtain ⟨ad309, e309, hx309_0, hx309_1, hx309_2⟩ := at_T87 HR0_2.out x13_1 p309 q309
   cases e309
   replace hx309_0 := pw_cell_below HB.out hx309_0
   replace hx309_1 := pw_cell_below HB.out hx309_1
   replace hx309_2 := pw_cell_below HB.out hx309_2
   replace p309 := eq_true p309
   replace q309 := eq_true q309
   go_upto_region 5 with (first | ((with_reducible refine gate_dst (N := 5) rfl ?_); refine box_event rfl (N := 5) rfl (cs := #[.int .i64 0, .int .i64 0, .int .i64 0]) (t := 87) ?hr ?_; (case hr => first | (go_simp; done) | (go_simp; rfl)); intro gb310 hg w10 hbox hb; have BK310 := As_ (hbox); have hW_ := bel_ w hb (by repeat (first | (with_reducible first | exact HB.out | apply ba_ | apply bn_ | apply bd_ | refine bs_ ?_ GE305.out) | exact HB.out)); have GE310 := As_ (gesz hg hW_); have NB305_310 := As_ (ne_lt hg BK305.out); have NB310_305 := As_ (ne_gt hg BK305.out); replace HO_3 := As_ (Kd.S_below (by (with_reducible repeat (first | apply Kd.S_alloc | apply Kd.S_drewN | apply Kd.S_drew)); exact HO_3.out) hb); replace BK305 := As_ (blk_b hb BK305.out); replace HB := As_ (below_step hW_ hb); clear hW_ hb hbox hg; have hnb11 := NB310_305.out; have hnc11 := NB305_310.out; obtain ⟨hcz12_0, hcz12_1, hcz12_2⟩ := c3_ (w := w10) BK310.out; obtain ⟨hfz12_0, hfz12_1, hfz12_2⟩ := z3_ BK310.out))
   (try simp only [Act.put, sib_, sc0_, sc1_])
   go_cut [24] (fun v24 wc => ∃ (kq : Nat) (x24_8 : Bool), v24 = .bool x24_8 ∧ Aside0 (impl_Cut_crosses.j1 kq x3_1 l0_2 (l0_2.length : Int) x13_1 x24_8 a0_0 a0_1 l0_2 ((rd_T87 l0_2 x13_1).f0) ((rd_T87 l0_2 x13_1).f1) ((rd_T87 l0_2 x13_1).f2) = some r) ∧ Aside0 (kq ≤ k1) ∧ Aside0 (Kd.S (Kd.slice 3 (Kd.int .i64)) 26 wc w.heap.size (fun _ => True) u3 x3_1) ∧ Aside0 (wc.heap[gb305]? = some (.cells #[.int .i64 a0_0, .int .i64 a0_1, (.slice (some ad309) l0_2.length c0_2)] 31 (0, 0))) ∧ Aside0 (wc.heap[gb310]? = some (.cells #[.int .i64 ((rd_T87 l0_2 x13_1).f0), .int .i64 ((rd_T87 l0_2 x13_1).f1), .int .i64 ((rd_T87 l0_2 x13_1).f2)] 87 (0, 0))) ∧ Aside0 (Below w.heap.size w wc))
   case first =>
    have H := HC9.out
    clear HC9
    by_cases c13 : ((rd_T87 l0_2 x13_1).f0) = 0
    ·
     rw [if_pos c13] at H
     have c13b0 : (((rd_T87 l0_2 x13_1).f0) == 0) = true := beq_iff_eq.mpr c13
     have c13b1 : (((rd_T87 l0_2 x13_1).f0) != 0) = false := bne_eq_false_iff_eq.mpr c13
     clear c13
     (first | rw [c13b0] | (simp only [i64_w, i32_w]; rw [c13b0]) | skip)
     have H' := As_ H
     clear H
     have hnb14 := NB310_305.out
     have hnc14 := NB305_310.out
     obtain ⟨hcz15_0, hcz15_1, hcz15_2⟩ := c3_ (w := w10) BK310.out
     obtain ⟨hfz15_0, hfz15_1, hfz15_2⟩ := z3_ BK310.out
     go_wp2
     go_meet
     case rel => exact ⟨_, (true), (by first | rfl | (simp; done) | (simp [*]; done)), H', ⟨by have := HK1.out; first | omega | exact Nat.le_refl _⟩, ⟨by (with_reducible repeat (first | apply Kd.S_alloc | apply Kd.S_drewN | apply Kd.S_drew)); exact Kd.S_mono (Kd.S_far (p := ⟨gb310, 2, none⟩) (Kd.S_far (p := ⟨gb310, 1, none⟩) (Kd.S_far (p := ⟨gb310, 0, none⟩) (Kd.S_types HO_3.out BK310.out (by decide)) (fun _ hk => hk.2) (.int .i64 ((rd_T87 l0_2 x13_1).f0))) (fun _ hk => hk.2) (.int .i64 ((rd_T87 l0_2 x13_1).f1))) (fun _ hk => hk.2) (.int .i64 ((rd_T87 l0_2 x13_1).f2))) (fun _ hk => trivial)⟩, ⟨by (with_reducible repeat (first | refine kn_ ?_ _ | refine kd_ ?_ | refine ka_ ?_ _)); refine blk_far ?_ NB305_310.out _; refine blk_far ?_ NB305_310.out _; refine blk_far ?_ NB305_310.out _; (with_reducible repeat (first | refine kn_ ?_ _ | refine kd_ ?_ | refine ka_ ?_ _)); exact BK305.out⟩, ⟨by (with_reducible repeat (first | refine kn_ ?_ _ | refine kd_ ?_ | refine ka_ ?_ _)); refine blk_put (cs := #[.int .i64 ((rd_T87 l0_2 x13_1).f0), .int .i64 ((rd_T87 l0_2 x13_1).f1), .int .i64 0]) ?_ 2 _ rfl; refine blk_put (cs := #[.int .i64 ((rd_T87 l0_2 x13_1).f0), .int .i64 0, .int .i64 0]) ?_ 1 _ rfl; refine blk_put (cs := #[.int .i64 0, .int .i64 0, .int .i64 0]) ?_ 0 _ rfl; (with_reducible repeat (first | refine kn_ ?_ _ | refine kd_ ?_ | refine ka_ ?_ _)); exact BK310.out⟩, ⟨by repeat (first | (with_reducible first | exact HB.out | apply ba_ | apply bn_ | apply bd_ | refine below_setA ?_ (by assumption)) | exact HB.out)⟩⟩
    ·
     rw [if_neg c13] at H
     have c13b0 : (((rd_T87 l0_2 x13_1).f0) == 0) = false := beq_eq_false_iff_ne.mpr c13
     have c13b1 : (((rd_T87 l0_2 x13_1).f0) != 0) = true := bne_iff_ne.mpr c13
     (first | rw [c13b0] | (simp only [i64_w, i32_w]; rw [c13b0]) | skip)
     have H' := As_ H
     clear H
     have hnb16 := NB310_305.out
     have hnc16 := NB305_310.out
     obtain ⟨hcz17_0, hcz17_1, hcz17_2⟩ := c3_ (w := w10) BK310.out
     obtain ⟨hfz17_0, hfz17_1, hfz17_2⟩ := z3_ BK310.out
     go_wp2
     go_meet
     case rel => exact ⟨_, ((((rd_T87 l0_2 x13_1).f1) == 0)), (by first | rfl | (simp; done) | (simp [*]; done)), H', ⟨by have := HK1.out; first | omega | exact Nat.le_refl _⟩, ⟨by (with_reducible repeat (first | apply Kd.S_alloc | apply Kd.S_drewN | apply Kd.S_drew)); exact Kd.S_mono (Kd.S_far (p := ⟨gb310, 2, none⟩) (Kd.S_far (p := ⟨gb310, 1, none⟩) (Kd.S_far (p := ⟨gb310, 0, none⟩) (Kd.S_types HO_3.out BK310.out (by decide)) (fun _ hk => hk.2) (.int .i64 ((rd_T87 l0_2 x13_1).f0))) (fun _ hk => hk.2) (.int .i64 ((rd_T87 l0_2 x13_1).f1))) (fun _ hk => hk.2) (.int .i64 ((rd_T87 l0_2 x13_1).f2))) (fun _ hk => trivial)⟩, ⟨by (with_reducible repeat (first | refine kn_ ?_ _ | refine kd_ ?_ | refine ka_ ?_ _)); refine blk_far ?_ NB305_310.out _; refine blk_far ?_ NB305_310.out _; refine blk_far ?_ NB305_310.out _; (with_reducible repeat (first | refine kn_ ?_ _ | refine kd_ ?_ | refine ka_ ?_ _)); exact BK305.out⟩, ⟨by (with_reducible repeat (first | refine kn_ ?_ _ | refine kd_ ?_ | refine ka_ ?_ _)); refine blk_put (cs := #[.int .i64 ((rd_T87 l0_2 x13_1).f0), .int .i64 ((rd_T87 l0_2 x13_1).f1), .int .i64 0]) ?_ 2 _ rfl; refine blk_put (cs := #[.int .i64 ((rd_T87 l0_2 x13_1).f0), .int .i64 0, .int .i64 0]) ?_ 1 _ rfl; refine blk_put (cs := #[.int .i64 0, .int .i64 0, .int .i64 0]) ?_ 0 _ rfl; (with_reducible repeat (first | refine kn_ ?_ _ | refine kd_ ?_ | refine ka_ ?_ _)); exact BK310.out⟩, ⟨by repeat (first | (with_reducible first | exact HB.out | apply ba_ | apply bn_ | apply bd_ | refine below_setA ?_ (by assumption)) | exact HB.out)⟩⟩
   case rest =>
    clear HC9
    try clear c1; try clear p2; try clear p3
    try clear q3
    try clear hx3; try clear c6; try clear c6b0; try clear c7; try clear c7b0; try clear c8; try clear c8b0; try clear c11; try clear c13; try clear c13b0; try clear c13b1; try clear c14; try clear c16; try clear hcz12_0 hcz12_1 hcz12_2; try clear hcz15_0 hcz15_1 hcz15_2; try clear hcz17_0 hcz17_1 hcz17_2; try clear hcz5_0 hcz5_1 hcz5_2; try clear hfz12_0 hfz12_1 hfz12_2; try clear hfz15_0 hfz15_1 hfz15_2; try clear hfz17_0 hfz17_1 hfz17_2; try clear hfz5_0 hfz5_1 hfz5_2; try clear hx309_0; try clear hx309_1; try clear hx309_2; try clear p2; try clear p309
    try clear q309
    obtain ⟨kq, x24_8, rfl, HA, HJ8, HO_3, BK305, BK310, HB⟩ := hcut
    rcases kq with _ | kj8
    · exact absurd HA.out (by simp [impl_Cut_crosses.j1])
    have H := HA.out
    clear HA
    simp only [impl_Cut_crosses.j1] at H
    by_cases c18 : x24_8 = true
    ·
     subst c18
     have H1 : (impl_Cut_crosses.l0 kj8 x3_1 l0_2 (l0_2.length : Int) (wrap64 (x13_1 + 1)) a0_0 a0_1 l0_2) = some r := by rw [if_pos rfl] at H; exact H
     clear H
     have H := H1
     clear H1
     have H' := As_ H
     clear H
     go_wp2
     go_roundg kj8
     case measure => have := HK1.out; have := HJ8.out; omega
     case rel => exact ⟨(x3_1), (wrap64 (x13_1 + 1)), (by first | rfl | (simp; done) | (simp [*]; done)), H', ⟨by have := HK1.out; have := HJ8.out; omega⟩, ⟨by (with_reducible repeat (first | apply Kd.S_alloc | apply Kd.S_drewN | apply Kd.S_drew)); exact HO_3.out⟩, ⟨by (with_reducible repeat (first | refine kn_ ?_ _ | refine kd_ ?_ | refine ka_ ?_ _)); exact BK305.out⟩, ⟨by repeat (first | (with_reducible first | exact HB.out | apply ba_ | apply bn_ | apply bd_ | refine below_setA ?_ (by assumption)) | exact HB.out)⟩⟩
    ·
     replace c18 := Bool.eq_false_iff.mpr c18
     subst c18
     have H1 : (impl_Cut_crosses.l1 kj8 x3_1 0 l0_2 (l0_2.length : Int) x13_1 l0_2 (l0_2.length : Int) 0 a0_0 a0_1 l0_2 ((rd_T87 l0_2 x13_1).f0) ((rd_T87 l0_2 x13_1).f1) ((rd_T87 l0_2 x13_1).f2)) = some r := by rw [if_neg (show ¬ (false = true) by decide)] at H; exact H
     clear H
     have H := H1
     clear H1
     have H' := As_ H
     clear H
     have hnb19 := NB305_310.out
     have hnc19 := NB310_305.out
     obtain ⟨hcz20_0, hcz20_1, hcz20_2⟩ := c3_ (w := wc) BK305.out
     obtain ⟨hfz20_0, hfz20_1, hfz20_2⟩ := z3_ BK305.out
     go_wp2
     go_loopg [6, 28] kj8 (fun kq v6 v28 w' => ∃ (x6_3 : Int) (x28_3 : Int), v6 = .int .i64 x6_3 ∧ v28 = .int .i64 x28_3 ∧ Aside0 (impl_Cut_crosses.l1 kq x3_1 x6_3 l0_2 (l0_2.length : Int) x13_1 l0_2 (l0_2.length : Int) x28_3 a0_0 a0_1 l0_2 ((rd_T87 l0_2 x13_1).f0) ((rd_T87 l0_2 x13_1).f1) ((rd_T87 l0_2 x13_1).f2) = some r) ∧ Aside0 (kq ≤ kj8) ∧ Aside0 (Kd.S (Kd.slice 3 (Kd.int .i64)) 26 w' w.heap.size (fun _ => True) u3 x3_1) ∧ Aside0 (w'.heap[gb305]? = some (.cells #[.int .i64 a0_0, .int .i64 a0_1, (.slice (some ad309) l0_2.length c0_2)] 31 (0, 0))) ∧ Aside0 (w'.heap[gb310]? = some (.cells #[.int .i64 ((rd_T87 l0_2 x13_1).f0), .int .i64 ((rd_T87 l0_2 x13_1).f1), .int .i64 ((rd_T87 l0_2 x13_1).f2)] 87 (0, 0))) ∧ Aside0 (Below w.heap.size w w'))
     case atStart => exact ⟨(0), (0), (by first | rfl | (simp; done) | (simp [*]; done)), (by first | rfl | (simp; done) | (simp [*]; done)), H', ⟨Nat.le_refl _⟩, ⟨by (with_reducible repeat (first | apply Kd.S_alloc | apply Kd.S_drewN | apply Kd.S_drew)); exact HO_3.out⟩, ⟨by (with_reducible repeat (first | refine kn_ ?_ _ | refine kd_ ?_ | refine ka_ ?_ _)); exact BK305.out⟩, ⟨by (with_reducible repeat (first | refine kn_ ?_ _ | refine kd_ ?_ | refine ka_ ?_ _)); exact BK310.out⟩, ⟨by repeat (first | (with_reducible first | exact HB.out | apply ba_ | apply bn_ | apply bd_ | refine below_setA ?_ (by assumption)) | exact HB.out)⟩⟩
     case round =>
      clear H'
      try clear c1; try clear p2; try clear p3
      try clear q3
      try clear hx3; try clear c6; try clear c6b0; try clear p6; try clear c7; try clear c7b0; try clear c8; try clear c8b0; try clear c11; try clear c13; try clear c13b0; try clear c13b1; try clear c14; try clear c16; try clear c18; try clear c19; try clear hcz12_0 hcz12_1 hcz12_2; try clear hcz15_0 hcz15_1 hcz15_2; try clear hcz17_0 hcz17_1 hcz17_2; try clear hcz20_0 hcz20_1 hcz20_2; try clear hcz5_0 hcz5_1 hcz5_2; try clear hfz12_0 hfz12_1 hfz12_2; try clear hfz15_0 hfz15_1 hfz15_2; try clear hfz17_0 hfz17_1 hfz17_2; try clear hfz20_0 hfz20_1 hfz20_2; try clear hfz5_0 hfz5_1 hfz5_2; try clear hx309_0; try clear hx309_1; try clear hx309_2; try clear p2; try clear p3; try clear p309
      try clear q3
      try clear q309
      obtain ⟨x6_3, x28_3, rfl, rfl, HA, HK3, HO_3, BK305, BK310, HB⟩ := hrel
      rcases gk with _ | k3
      · exact absurd HA.out (by simp [impl_Cut_crosses.l1])
      have H := HA.out
      clear HA
      simp only [impl_Cut_crosses.l1] at H
      by_cases c21 : x28_3 < (l0_2.length : Int)
      ·
       rw [if_pos c21] at H
       have c21b0 : decide (x28_3 < (l0_2.length : Int)) = true := decide_eq_true c21
       clear c21
       by_cases c22 : 0 ≤ x28_3
       case neg => rw [if_neg c22] at H; exact absurd H (by simp)
       rw [if_pos c22] at H
       have c22b0 : decide (0 ≤ x28_3) = true := decide_eq_true c22
       clear c22
       by_cases c23 : x28_3 < (l0_2.length : Int)
       case neg => rw [if_neg c23] at H; exact absurd H (by simp)
       rw [if_pos c23] at H
       have c23b0 : decide (x28_3 < (l0_2.length : Int)) = true := decide_eq_true c23
       clear c23
       by_cases c24 : ((rd_T87 l0_2 x28_3).f0) = ((rd_T87 l0_2 x13_1).f0)
       ·
        rw [if_pos c24] at H
        have c24b0 : (((rd_T87 l0_2 x28_3).f0) == ((rd_T87 l0_2 x13_1).f0)) = true := beq_iff_eq.mpr c24
        have c24b1 : (((rd_T87 l0_2 x28_3).f0) != ((rd_T87 l0_2 x13_1).f0)) = false := bne_eq_false_iff_eq.mpr c24
        clear c24
        by_cases c25 : ((rd_T87 l0_2 x28_3).f1) = ((rd_T87 l0_2 x13_1).f1)
        ·
         rw [if_pos c25] at H
         have c25b0 : (((rd_T87 l0_2 x28_3).f1) == ((rd_T87 l0_2 x13_1).f1)) = true := beq_iff_eq.mpr c25
         have c25b1 : (((rd_T87 l0_2 x28_3).f1) != ((rd_T87 l0_2 x13_1).f1)) = false := bne_eq_false_iff_eq.mpr c25
         clear c25
         replace H := Option.bind_eq_some_iff.mp H
         obtain ⟨t313, A260, H⟩ := H
         try dsimp only at H
         have A26 := As_ A260
         clear A260
         have H' := As_ H
         clear H
         have p311 : 0 ≤ (x28_3 : Int) := of_decide_eq_true (by first | (with_reducible assumption) | assumption)
         have q311 : x28_3 < (l0_2.length : Int) := of_decide_eq_true (by first | (with_reducible assumption) | assumption)
         obtain ⟨ad311, e311, hx311_0, hx311_1, hx311_2⟩ := at_T87 HR0_2.out x28_3 p311 q311
         obtain rfl : ad309 = ad311 := (by injection e311)
         replace hx311_0 := pw_cell_below HB.out hx311_0
         replace hx311_1 := pw_cell_below HB.out hx311_1
         replace hx311_2 := pw_cell_below HB.out hx311_2
         replace p311 := eq_true p311
         replace q311 := eq_true q311
         go_wp2_with (first | ((with_reducible refine gate_dst (N := 8) rfl ?_); refine box_event rfl (N := 8) rfl (cs := #[.int .i64 0, .int .i64 0, .int .i64 0]) (t := 87) ?hr ?_; (case hr => first | (go_simp; done) | (go_simp; rfl)); intro gb312 hg w27 hbox hb; have BK312 := As_ (hbox); have hW_ := bel_ w hb (by repeat (first | (with_reducible first | exact HB.out | apply ba_ | apply bn_ | apply bd_ | refine below_setA ?_ (by assumption)) | exact HB.out)); have GE312 := As_ (gesz hg hW_); have NB305_312 := As_ (ne_lt hg BK305.out); have NB312_305 := As_ (ne_gt hg BK305.out); have NB310_312 := As_ (ne_lt hg BK310.out); have NB312_310 := As_ (ne_gt hg BK310.out); replace HO_3 := As_ (Kd.S_below (by (with_reducible repeat (first | apply Kd.S_alloc | apply Kd.S_drewN | apply Kd.S_drew)); exact HO_3.out) hb); replace BK305 := As_ (blk_b hb BK305.out); replace BK310 := As_ (blk_b hb BK310.out); replace HB := As_ (below_step hW_ hb); clear hW_ hb hbox hg; have hnb28 := NB312_305.out; have hnc28 := NB305_312.out; have hnb29 := NB312_310.out; have hnc29 := NB310_312.out; obtain ⟨hcz30_0, hcz30_1, hcz30_2⟩ := c3_ (w := w27) BK312.out; obtain ⟨hfz30_0, hfz30_1, hfz30_2⟩ := z3_ BK312.out; have hnb31 := NB310_305.out; have hnc31 := NB305_310.out; obtain ⟨hcz32_0, hcz32_1, hcz32_2⟩ := c3_ (w := w27) BK310.out; obtain ⟨hfz32_0, hfz32_1, hfz32_2⟩ := z3_ BK310.out) | ((with_reducible refine gate_callee (f := 72) rfl ?_); refine goesL_ (some 65) rfl rfl Try.func72 (by kernel_rfl) rfl #[.bool true] rfl (by (try simp only [List.map_toArray, List.map_cons, List.map_nil]); first | done | rfl | (simp only [List.length_drop, List.length_take]; rfl)) ?_; (with_reducible refine (impl_bit.calls true t313 _ A26.out).mono ?_); rintro e w' ⟨rfl, ⟨nd, rfl⟩⟩; refine ⟨_, rfl, ?_⟩))
         go_roundg k3
         case measure => have := HK1.out; have := HJ8.out; have := HK3.out; omega
         case rel => exact ⟨(wrap64 (x6_3 + t313)), (wrap64 (x28_3 + 1)), (by first | rfl | (simp; done) | (simp [*]; done)), (by first | rfl | (simp; done) | (simp [*]; done)), H', ⟨by have := HK1.out; have := HJ8.out; have := HK3.out; omega⟩, ⟨by (with_reducible repeat (first | apply Kd.S_alloc | apply Kd.S_drewN | apply Kd.S_drew)); exact Kd.S_mono (Kd.S_far (p := ⟨gb312, 2, none⟩) (Kd.S_far (p := ⟨gb312, 1, none⟩) (Kd.S_far (p := ⟨gb312, 0, none⟩) (Kd.S_types HO_3.out BK312.out (by decide)) (fun _ hk => hk.2) (.int .i64 ((rd_T87 l0_2 x28_3).f0))) (fun _ hk => hk.2) (.int .i64 ((rd_T87 l0_2 x28_3).f1))) (fun _ hk => hk.2) (.int .i64 ((rd_T87 l0_2 x28_3).f2))) (fun _ hk => trivial)⟩, ⟨by (with_reducible repeat (first | refine kn_ ?_ _ | refine kd_ ?_ | refine ka_ ?_ _)); refine blk_far ?_ NB305_312.out _; refine blk_far ?_ NB305_312.out _; refine blk_far ?_ NB305_312.out _; (with_reducible repeat (first | refine kn_ ?_ _ | refine kd_ ?_ | refine ka_ ?_ _)); exact BK305.out⟩, ⟨by (with_reducible repeat (first | refine kn_ ?_ _ | refine kd_ ?_ | refine ka_ ?_ _)); refine blk_far ?_ NB310_312.out _; refine blk_far ?_ NB310_312.out _; refine blk_far ?_ NB310_312.out _; (with_reducible repeat (first | refine kn_ ?_ _ | refine kd_ ?_ | refine ka_ ?_ _)); exact BK310.out⟩, ⟨by repeat (first | (with_reducible first | exact HB.out | apply ba_ | apply bn_ | apply bd_ | refine below_setA ?_ (by assumption)) | exact HB.out)⟩⟩
        ·
         rw [if_neg c25] at H
         have c25b0 : (((rd_T87 l0_2 x28_3).f1) == ((rd_T87 l0_2 x13_1).f1)) = false := beq_eq_false_iff_ne.mpr c25
         have c25b1 : (((rd_T87 l0_2 x28_3).f1) != ((rd_T87 l0_2 x13_1).f1)) = true := bne_iff_ne.mpr c25
         replace H := Option.bind_eq_some_iff.mp H
         obtain ⟨t314, A330, H⟩ := H
         try dsimp only at H
         have A33 := As_ A330
         clear A330
         have H' := As_ H
         clear H
         have p311 : 0 ≤ (x28_3 : Int) := of_decide_eq_true (by first | (with_reducible assumption) | assumption)
         have q311 : x28_3 < (l0_2.length : Int) := of_decide_eq_true (by first | (with_reducible assumption) | assumption)
         obtain ⟨ad311, e311, hx311_0, hx311_1, hx311_2⟩ := at_T87 HR0_2.out x28_3 p311 q311
         obtain rfl : ad309 = ad311 := (by injection e311)
         replace hx311_0 := pw_cell_below HB.out hx311_0
         replace hx311_1 := pw_cell_below HB.out hx311_1
         replace hx311_2 := pw_cell_below HB.out hx311_2
         replace p311 := eq_true p311
         replace q311 := eq_true q311
         go_wp2_with (first | ((with_reducible refine gate_dst (N := 8) rfl ?_); refine box_event rfl (N := 8) rfl (cs := #[.int .i64 0, .int .i64 0, .int .i64 0]) (t := 87) ?hr ?_; (case hr => first | (go_simp; done) | (go_simp; rfl)); intro gb312 hg w34 hbox hb; have BK312 := As_ (hbox); have hW_ := bel_ w hb (by repeat (first | (with_reducible first | exact HB.out | apply ba_ | apply bn_ | apply bd_ | refine below_setA ?_ (by assumption)) | exact HB.out)); have GE312 := As_ (gesz hg hW_); have NB305_312 := As_ (ne_lt hg BK305.out); have NB312_305 := As_ (ne_gt hg BK305.out); have NB310_312 := As_ (ne_lt hg BK310.out); have NB312_310 := As_ (ne_gt hg BK310.out); replace HO_3 := As_ (Kd.S_below (by (with_reducible repeat (first | apply Kd.S_alloc | apply Kd.S_drewN | apply Kd.S_drew)); exact HO_3.out) hb); replace BK305 := As_ (blk_b hb BK305.out); replace BK310 := As_ (blk_b hb BK310.out); replace HB := As_ (below_step hW_ hb); clear hW_ hb hbox hg; have hnb35 := NB312_305.out; have hnc35 := NB305_312.out; have hnb36 := NB312_310.out; have hnc36 := NB310_312.out; obtain ⟨hcz37_0, hcz37_1, hcz37_2⟩ := c3_ (w := w34) BK312.out; obtain ⟨hfz37_0, hfz37_1, hfz37_2⟩ := z3_ BK312.out; have hnb38 := NB310_305.out; have hnc38 := NB305_310.out; obtain ⟨hcz39_0, hcz39_1, hcz39_2⟩ := c3_ (w := w34) BK310.out; obtain ⟨hfz39_0, hfz39_1, hfz39_2⟩ := z3_ BK310.out) | ((with_reducible refine gate_callee (f := 72) rfl ?_); refine goesL_ (some 65) rfl rfl Try.func72 (by kernel_rfl) rfl #[.bool ((wrap64 (((rd_T87 l0_2 x28_3).f1) + ((rd_T87 l0_2 x28_3).f2))) == ((rd_T87 l0_2 x13_1).f1))] rfl (by (try simp only [List.map_toArray, List.map_cons, List.map_nil]); first | done | rfl | (simp only [List.length_drop, List.length_take]; rfl)) ?_; (with_reducible refine (impl_bit.calls ((wrap64 (((rd_T87 l0_2 x28_3).f1) + ((rd_T87 l0_2 x28_3).f2))) == ((rd_T87 l0_2 x13_1).f1)) t314 _ A33.out).mono ?_); rintro e w' ⟨rfl, ⟨nd, rfl⟩⟩; refine ⟨_, rfl, ?_⟩))
         go_roundg k3
         case measure => have := HK1.out; have := HJ8.out; have := HK3.out; omega
         case rel => exact ⟨(wrap64 (x6_3 + t314)), (wrap64 (x28_3 + 1)), (by first | rfl | (simp; done) | (simp [*]; done)), (by first | rfl | (simp; done) | (simp [*]; done)), H', ⟨by have := HK1.out; have := HJ8.out; have := HK3.out; omega⟩, ⟨by (with_reducible repeat (first | apply Kd.S_alloc | apply Kd.S_drewN | apply Kd.S_drew)); exact Kd.S_mono (Kd.S_far (p := ⟨gb312, 2, none⟩) (Kd.S_far (p := ⟨gb312, 1, none⟩) (Kd.S_far (p := ⟨gb312, 0, none⟩) (Kd.S_types HO_3.out BK312.out (by decide)) (fun _ hk => hk.2) (.int .i64 ((rd_T87 l0_2 x28_3).f0))) (fun _ hk => hk.2) (.int .i64 ((rd_T87 l0_2 x28_3).f1))) (fun _ hk => hk.2) (.int .i64 ((rd_T87 l0_2 x28_3).f2))) (fun _ hk => trivial)⟩, ⟨by (with_reducible repeat (first | refine kn_ ?_ _ | refine kd_ ?_ | refine ka_ ?_ _)); refine blk_far ?_ NB305_312.out _; refine blk_far ?_ NB305_312.out _; refine blk_far ?_ NB305_312.out _; (with_reducible repeat (first | refine kn_ ?_ _ | refine kd_ ?_ | refine ka_ ?_ _)); exact BK305.out⟩, ⟨by (with_reducible repeat (first | refine kn_ ?_ _ | refine kd_ ?_ | refine ka_ ?_ _)); refine blk_far ?_ NB310_312.out _; refine blk_far ?_ NB310_312.out _; refine blk_far ?_ NB310_312.out _; (with_reducible repeat (first | refine kn_ ?_ _ | refine kd_ ?_ | refine ka_ ?_ _)); exact BK310.out⟩, ⟨by repeat (first | (with_reducible first | exact HB.out | apply ba_ | apply bn_ | apply bd_ | refine below_setA ?_ (by assumption)) | exact HB.out)⟩⟩
       ·
        rw [if_neg c24] at H
        have c24b0 : (((rd_T87 l0_2 x28_3).f0) == ((rd_T87 l0_2 x13_1).f0)) = false := beq_eq_false_iff_ne.mpr c24
        have c24b1 : (((rd_T87 l0_2 x28_3).f0) != ((rd_T87 l0_2 x13_1).f0)) = true := bne_iff_ne.mpr c24
        by_cases c40 : (wrap64 (((rd_T87 l0_2 x28_3).f0) + ((rd_T87 l0_2 x28_3).f2))) = ((rd_T87 l0_2 x13_1).f0)
        ·
         rw [if_pos c40] at H
         have c40b0 : ((wrap64 (((rd_T87 l0_2 x28_3).f0) + ((rd_T87 l0_2 x28_3).f2))) == ((rd_T87 l0_2 x13_1).f0)) = true := beq_iff_eq.mpr c40
         have c40b1 : ((wrap64 (((rd_T87 l0_2 x28_3).f0) + ((rd_T87 l0_2 x28_3).f2))) != ((rd_T87 l0_2 x13_1).f0)) = false := bne_eq_false_iff_eq.mpr c40
         clear c40
         by_cases c41 : ((rd_T87 l0_2 x28_3).f1) = ((rd_T87 l0_2 x13_1).f1)
         ·
          rw [if_pos c41] at H
          have c41b0 : (((rd_T87 l0_2 x28_3).f1) == ((rd_T87 l0_2 x13_1).f1)) = true := beq_iff_eq.mpr c41
          have c41b1 : (((rd_T87 l0_2 x28_3).f1) != ((rd_T87 l0_2 x13_1).f1)) = false := bne_eq_false_iff_eq.mpr c41
          clear c41
          replace H := Option.bind_eq_some_iff.mp H
          obtain ⟨t315, A420, H⟩ := H
          try dsimp only at H
          have A42 := As_ A420
          clear A420
          have H' := As_ H
          clear H
          have p311 : 0 ≤ (x28_3 : Int) := of_decide_eq_true (by first | (with_reducible assumption) | assumption)
          have q311 : x28_3 < (l0_2.length : Int) := of_decide_eq_true (by first | (with_reducible assumption) | assumption)
          obtain ⟨ad311, e311, hx311_0, hx311_1, hx311_2⟩ := at_T87 HR0_2.out x28_3 p311 q311
          obtain rfl : ad309 = ad311 := (by injection e311)
          replace hx311_0 := pw_cell_below HB.out hx311_0
          replace hx311_1 := pw_cell_below HB.out hx311_1
          replace hx311_2 := pw_cell_below HB.out hx311_2
          replace p311 := eq_true p311
          replace q311 := eq_true q311
          go_wp2_with (first | ((with_reducible refine gate_dst (N := 8) rfl ?_); refine box_event rfl (N := 8) rfl (cs := #[.int .i64 0, .int .i64 0, .int .i64 0]) (t := 87) ?hr ?_; (case hr => first | (go_simp; done) | (go_simp; rfl)); intro gb312 hg w43 hbox hb; have BK312 := As_ (hbox); have hW_ := bel_ w hb (by repeat (first | (with_reducible first | exact HB.out | apply ba_ | apply bn_ | apply bd_ | refine below_setA ?_ (by assumption)) | exact HB.out)); have GE312 := As_ (gesz hg hW_); have NB305_312 := As_ (ne_lt hg BK305.out); have NB312_305 := As_ (ne_gt hg BK305.out); have NB310_312 := As_ (ne_lt hg BK310.out); have NB312_310 := As_ (ne_gt hg BK310.out); replace HO_3 := As_ (Kd.S_below (by (with_reducible repeat (first | apply Kd.S_alloc | apply Kd.S_drewN | apply Kd.S_drew)); exact HO_3.out) hb); replace BK305 := As_ (blk_b hb BK305.out); replace BK310 := As_ (blk_b hb BK310.out); replace HB := As_ (below_step hW_ hb); clear hW_ hb hbox hg; have hnb44 := NB312_305.out; have hnc44 := NB305_312.out; have hnb45 := NB312_310.out; have hnc45 := NB310_312.out; obtain ⟨hcz46_0, hcz46_1, hcz46_2⟩ := c3_ (w := w43) BK312.out; obtain ⟨hfz46_0, hfz46_1, hfz46_2⟩ := z3_ BK312.out; have hnb47 := NB310_305.out; have hnc47 := NB305_310.out; obtain ⟨hcz48_0, hcz48_1, hcz48_2⟩ := c3_ (w := w43) BK310.out; obtain ⟨hfz48_0, hfz48_1, hfz48_2⟩ := z3_ BK310.out) | ((with_reducible refine gate_callee (f := 72) rfl ?_); refine goesL_ (some 65) rfl rfl Try.func72 (by kernel_rfl) rfl #[.bool true] rfl (by (try simp only [List.map_toArray, List.map_cons, List.map_nil]); first | done | rfl | (simp only [List.length_drop, List.length_take]; rfl)) ?_; (with_reducible refine (impl_bit.calls true t315 _ A42.out).mono ?_); rintro e w' ⟨rfl, ⟨nd, rfl⟩⟩; refine ⟨_, rfl, ?_⟩))
          go_roundg k3
          case measure => have := HK1.out; have := HJ8.out; have := HK3.out; omega
          case rel => exact ⟨(wrap64 (x6_3 + t315)), (wrap64 (x28_3 + 1)), (by first | rfl | (simp; done) | (simp [*]; done)), (by first | rfl | (simp; done) | (simp [*]; done)), H', ⟨by have := HK1.out; have := HJ8.out; have := HK3.out; omega⟩, ⟨by (with_reducible repeat (first | apply Kd.S_alloc | apply Kd.S_drewN | apply Kd.S_drew)); exact Kd.S_mono (Kd.S_far (p := ⟨gb312, 2, none⟩) (Kd.S_far (p := ⟨gb312, 1, none⟩) (Kd.S_far (p := ⟨gb312, 0, none⟩) (Kd.S_types HO_3.out BK312.out (by decide)) (fun _ hk => hk.2) (.int .i64 ((rd_T87 l0_2 x28_3).f0))) (fun _ hk => hk.2) (.int .i64 ((rd_T87 l0_2 x28_3).f1))) (fun _ hk => hk.2) (.int .i64 ((rd_T87 l0_2 x28_3).f2))) (fun _ hk => trivial)⟩, ⟨by (with_reducible repeat (first | refine kn_ ?_ _ | refine kd_ ?_ | refine ka_ ?_ _)); refine blk_far ?_ NB305_312.out _; refine blk_far ?_ NB305_312.out _; refine blk_far ?_ NB305_312.out _; (with_reducible repeat (first | refine kn_ ?_ _ | refine kd_ ?_ | refine ka_ ?_ _)); exact BK305.out⟩, ⟨by (with_reducible repeat (first | refine kn_ ?_ _ | refine kd_ ?_ | refine ka_ ?_ _)); refine blk_far ?_ NB310_312.out _; refine blk_far ?_ NB310_312.out _; refine blk_far ?_ NB310_312.out _; (with_reducible repeat (first | refine kn_ ?_ _ | refine kd_ ?_ | refine ka_ ?_ _)); exact BK310.out⟩, ⟨by repeat (first | (with_reducible first | exact HB.out | apply ba_ | apply bn_ | apply bd_ | refine below_setA ?_ (by assumption)) | exact HB.out)⟩⟩
         ·
          rw [if_neg c41] at H
          have c41b0 : (((rd_T87 l0_2 x28_3).f1) == ((rd_T87 l0_2 x13_1).f1)) = false := beq_eq_false_iff_ne.mpr c41
          have c41b1 : (((rd_T87 l0_2 x28_3).f1) != ((rd_T87 l0_2 x13_1).f1)) = true := bne_iff_ne.mpr c41
          replace H := Option.bind_eq_some_iff.mp H
          obtain ⟨t316, A490, H⟩ := H
          try dsimp only at H
          have A49 := As_ A490
          clear A490
          have H' := As_ H
          clear H
          have p311 : 0 ≤ (x28_3 : Int) := of_decide_eq_true (by first | (with_reducible assumption) | assumption)
          have q311 : x28_3 < (l0_2.length : Int) := of_decide_eq_true (by first | (with_reducible assumption) | assumption)
          obtain ⟨ad311, e311, hx311_0, hx311_1, hx311_2⟩ := at_T87 HR0_2.out x28_3 p311 q311
          obtain rfl : ad309 = ad311 := (by injection e311)
          replace hx311_0 := pw_cell_below HB.out hx311_0
          replace hx311_1 := pw_cell_below HB.out hx311_1
          replace hx311_2 := pw_cell_below HB.out hx311_2
          replace p311 := eq_true p311
          replace q311 := eq_true q311
          go_wp2_with (first | ((with_reducible refine gate_dst (N := 8) rfl ?_); refine box_event rfl (N := 8) rfl (cs := #[.int .i64 0, .int .i64 0, .int .i64 0]) (t := 87) ?hr ?_; (case hr => first | (go_simp; done) | (go_simp; rfl)); intro gb312 hg w50 hbox hb; have BK312 := As_ (hbox); have hW_ := bel_ w hb (by repeat (first | (with_reducible first | exact HB.out | apply ba_ | apply bn_ | apply bd_ | refine below_setA ?_ (by assumption)) | exact HB.out)); have GE312 := As_ (gesz hg hW_); have NB305_312 := As_ (ne_lt hg BK305.out); have NB312_305 := As_ (ne_gt hg BK305.out); have NB310_312 := As_ (ne_lt hg BK310.out); have NB312_310 := As_ (ne_gt hg BK310.out); replace HO_3 := As_ (Kd.S_below (by (with_reducible repeat (first | apply Kd.S_alloc | apply Kd.S_drewN | apply Kd.S_drew)); exact HO_3.out) hb); replace BK305 := As_ (blk_b hb BK305.out); replace BK310 := As_ (blk_b hb BK310.out); replace HB := As_ (below_step hW_ hb); clear hW_ hb hbox hg; have hnb51 := NB312_305.out; have hnc51 := NB305_312.out; have hnb52 := NB312_310.out; have hnc52 := NB310_312.out; obtain ⟨hcz53_0, hcz53_1, hcz53_2⟩ := c3_ (w := w50) BK312.out; obtain ⟨hfz53_0, hfz53_1, hfz53_2⟩ := z3_ BK312.out; have hnb54 := NB310_305.out; have hnc54 := NB305_310.out; obtain ⟨hcz55_0, hcz55_1, hcz55_2⟩ := c3_ (w := w50) BK310.out; obtain ⟨hfz55_0, hfz55_1, hfz55_2⟩ := z3_ BK310.out) | ((with_reducible refine gate_callee (f := 72) rfl ?_); refine goesL_ (some 65) rfl rfl Try.func72 (by kernel_rfl) rfl #[.bool ((wrap64 (((rd_T87 l0_2 x28_3).f1) + ((rd_T87 l0_2 x28_3).f2))) == ((rd_T87 l0_2 x13_1).f1))] rfl (by (try simp only [List.map_toArray, List.map_cons, List.map_nil]); first | done | rfl | (simp only [List.length_drop, List.length_take]; rfl)) ?_; (with_reducible refine (impl_bit.calls ((wrap64 (((rd_T87 l0_2 x28_3).f1) + ((rd_T87 l0_2 x28_3).f2))) == ((rd_T87 l0_2 x13_1).f1)) t316 _ A49.out).mono ?_); rintro e w' ⟨rfl, ⟨nd, rfl⟩⟩; refine ⟨_, rfl, ?_⟩))
          go_roundg k3
          case measure => have := HK1.out; have := HJ8.out; have := HK3.out; omega
          case rel => exact ⟨(wrap64 (x6_3 + t316)), (wrap64 (x28_3 + 1)), (by first | rfl | (simp; done) | (simp [*]; done)), (by first | rfl | (simp; done) | (simp [*]; done)), H', ⟨by have := HK1.out; have := HJ8.out; have := HK3.out; omega⟩, ⟨by (with_reducible repeat (first | apply Kd.S_alloc | apply Kd.S_drewN | apply Kd.S_drew)); exact Kd.S_mono (Kd.S_far (p := ⟨gb312, 2, none⟩) (Kd.S_far (p := ⟨gb312, 1, none⟩) (Kd.S_far (p := ⟨gb312, 0, none⟩) (Kd.S_types HO_3.out BK312.out (by decide)) (fun _ hk => hk.2) (.int .i64 ((rd_T87 l0_2 x28_3).f0))) (fun _ hk => hk.2) (.int .i64 ((rd_T87 l0_2 x28_3).f1))) (fun _ hk => hk.2) (.int .i64 ((rd_T87 l0_2 x28_3).f2))) (fun _ hk => trivial)⟩, ⟨by (with_reducible repeat (first | refine kn_ ?_ _ | refine kd_ ?_ | refine ka_ ?_ _)); refine blk_far ?_ NB305_312.out _; refine blk_far ?_ NB305_312.out _; refine blk_far ?_ NB305_312.out _; (with_reducible repeat (first | refine kn_ ?_ _ | refine kd_ ?_ | refine ka_ ?_ _)); exact BK305.out⟩, ⟨by (with_reducible repeat (first | refine kn_ ?_ _ | refine kd_ ?_ | refine ka_ ?_ _)); refine blk_far ?_ NB310_312.out _; refine blk_far ?_ NB310_312.out _; refine blk_far ?_ NB310_312.out _; (with_reducible repeat (first | refine kn_ ?_ _ | refine kd_ ?_ | refine ka_ ?_ _)); exact BK310.out⟩, ⟨by repeat (first | (with_reducible first | exact HB.out | apply ba_ | apply bn_ | apply bd_ | refine below_setA ?_ (by assumption)) | exact HB.out)⟩⟩
        ·
         rw [if_neg c40] at H
         have c40b0 : ((wrap64 (((rd_T87 l0_2 x28_3).f0) + ((rd_T87 l0_2 x28_3).f2))) == ((rd_T87 l0_2 x13_1).f0)) = false := beq_eq_false_iff_ne.mpr c40
         have c40b1 : ((wrap64 (((rd_T87 l0_2 x28_3).f0) + ((rd_T87 l0_2 x28_3).f2))) != ((rd_T87 l0_2 x13_1).f0)) = true := bne_iff_ne.mpr c40
         replace H := Option.bind_eq_some_iff.mp H
         obtain ⟨t317, A560, H⟩ := H
         try dsimp only at H
         have A56 := As_ A560
         clear A560
         have H' := As_ H
         clear H
         have p311 : 0 ≤ (x28_3 : Int) := of_decide_eq_true (by first | (with_reducible assumption) | assumption)
         have q311 : x28_3 < (l0_2.length : Int) := of_decide_eq_true (by first | (with_reducible assumption) | assumption)
         obtain ⟨ad311, e311, hx311_0, hx311_1, hx311_2⟩ := at_T87 HR0_2.out x28_3 p311 q311
         obtain rfl : ad309 = ad311 := (by injection e311)
         replace hx311_0 := pw_cell_below HB.out hx311_0
         replace hx311_1 := pw_cell_below HB.out hx311_1
         replace hx311_2 := pw_cell_below HB.out hx311_2
         replace p311 := eq_true p311
         replace q311 := eq_true q311
         go_wp2_with (first | ((with_reducible refine gate_dst (N := 8) rfl ?_); refine box_event rfl (N := 8) rfl (cs := #[.int .i64 0, .int .i64 0, .int .i64 0]) (t := 87) ?hr ?_; (case hr => first | (go_simp; done) | (go_simp; rfl)); intro gb312 hg w57 hbox hb; have BK312 := As_ (hbox); have hW_ := bel_ w hb (by repeat (first | (with_reducible first | exact HB.out | apply ba_ | apply bn_ | apply bd_ | refine below_setA ?_ (by assumption)) | exact HB.out)); have GE312 := As_ (gesz hg hW_); have NB305_312 := As_ (ne_lt hg BK305.out); have NB312_305 := As_ (ne_gt hg BK305.out); have NB310_312 := As_ (ne_lt hg BK310.out); have NB312_310 := As_ (ne_gt hg BK310.out); replace HO_3 := As_ (Kd.S_below (by (with_reducible repeat (first | apply Kd.S_alloc | apply Kd.S_drewN | apply Kd.S_drew)); exact HO_3.out) hb); replace BK305 := As_ (blk_b hb BK305.out); replace BK310 := As_ (blk_b hb BK310.out); replace HB := As_ (below_step hW_ hb); clear hW_ hb hbox hg; have hnb58 := NB312_305.out; have hnc58 := NB305_312.out; have hnb59 := NB312_310.out; have hnc59 := NB310_312.out; obtain ⟨hcz60_0, hcz60_1, hcz60_2⟩ := c3_ (w := w57) BK312.out; obtain ⟨hfz60_0, hfz60_1, hfz60_2⟩ := z3_ BK312.out; have hnb61 := NB310_305.out; have hnc61 := NB305_310.out; obtain ⟨hcz62_0, hcz62_1, hcz62_2⟩ := c3_ (w := w57) BK310.out; obtain ⟨hfz62_0, hfz62_1, hfz62_2⟩ := z3_ BK310.out) | ((with_reducible refine gate_callee (f := 72) rfl ?_); refine goesL_ (some 65) rfl rfl Try.func72 (by kernel_rfl) rfl #[.bool false] rfl (by (try simp only [List.map_toArray, List.map_cons, List.map_nil]); first | done | rfl | (simp only [List.length_drop, List.length_take]; rfl)) ?_; (with_reducible refine (impl_bit.calls false t317 _ A56.out).mono ?_); rintro e w' ⟨rfl, ⟨nd, rfl⟩⟩; refine ⟨_, rfl, ?_⟩))
         go_roundg k3
         case measure => have := HK1.out; have := HJ8.out; have := HK3.out; omega
         case rel => exact ⟨(wrap64 (x6_3 + t317)), (wrap64 (x28_3 + 1)), (by first | rfl | (simp; done) | (simp [*]; done)), (by first | rfl | (simp; done) | (simp [*]; done)), H', ⟨by have := HK1.out; have := HJ8.out; have := HK3.out; omega⟩, ⟨by (with_reducible repeat (first | apply Kd.S_alloc | apply Kd.S_drewN | apply Kd.S_drew)); exact Kd.S_mono (Kd.S_far (p := ⟨gb312, 2, none⟩) (Kd.S_far (p := ⟨gb312, 1, none⟩) (Kd.S_far (p := ⟨gb312, 0, none⟩) (Kd.S_types HO_3.out BK312.out (by decide)) (fun _ hk => hk.2) (.int .i64 ((rd_T87 l0_2 x28_3).f0))) (fun _ hk => hk.2) (.int .i64 ((rd_T87 l0_2 x28_3).f1))) (fun _ hk => hk.2) (.int .i64 ((rd_T87 l0_2 x28_3).f2))) (fun _ hk => trivial)⟩, ⟨by (with_reducible repeat (first | refine kn_ ?_ _ | refine kd_ ?_ | refine ka_ ?_ _)); refine blk_far ?_ NB305_312.out _; refine blk_far ?_ NB305_312.out _; refine blk_far ?_ NB305_312.out _; (with_reducible repeat (first | refine kn_ ?_ _ | refine kd_ ?_ | refine ka_ ?_ _)); exact BK305.out⟩, ⟨by (with_reducible repeat (first | refine kn_ ?_ _ | refine kd_ ?_ | refine ka_ ?_ _)); refine blk_far ?_ NB310_312.out _; refine blk_far ?_ NB310_312.out _; refine blk_far ?_ NB310_312.out _; (with_reducible repeat (first | refine kn_ ?_ _ | refine kd_ ?_ | refine ka_ ?_ _)); exact BK310.out⟩, ⟨by repeat (first | (with_reducible first | exact HB.out | apply ba_ | apply bn_ | apply bd_ | refine below_setA ?_ (by assumption)) | exact HB.out)⟩⟩
      ·
       rw [if_neg c21] at H
       have c21b0 : decide (x28_3 < (l0_2.length : Int)) = false := decide_eq_false c21
       clear c21
       by_cases c63 : x6_3 = 4
       ·
        rw [if_pos c63] at H
        have c63b0 : (x6_3 == 4) = true := beq_iff_eq.mpr c63
        have c63b1 : (x6_3 != 4) = false := bne_eq_false_iff_eq.mpr c63
        clear c63
        obtain ⟨y318, hy318⟩ : ∃ y_ : List Int, y_ = (([((rd_T87 l0_2 x13_1).f0), ((rd_T87 l0_2 x13_1).f1)] : List Int)) := ⟨_, rfl⟩
        replace H : (if x3_1.length < 5864062014805 then (impl_Cut_crosses.l0 k3 (x3_1 ++ [y318]) l0_2 (l0_2.length : Int) (wrap64 (x13_1 + 1)) a0_0 a0_1 l0_2) else (none)) = some r := by first | (rw [hy318]; with_reducible exact H) | (have H2_ := (Option.bind_some _ _).symm.trans H; rw [hy318]; with_reducible exact H2_) | (have H2_ := (Option.bind_some _ _).symm.trans H; with_reducible exact H2_) | with_reducible exact H | (rw [hy318]; exact H) | exact H
        have Ny318 := As_ hy318
        clear hy318
        by_cases c64 : x3_1.length < 5864062014805
        case neg => rw [if_neg c64] at H; exact absurd H (by simp)
        rw [if_pos c64] at H
        have LMc64 := As_ c64
        clear c64
        obtain ⟨y321, hy321⟩ : ∃ y_ : List (List Int), y_ = (x3_1 ++ [y318]) := ⟨_, rfl⟩
        replace H : (impl_Cut_crosses.l0 k3 y321 l0_2 (l0_2.length : Int) (wrap64 (x13_1 + 1)) a0_0 a0_1 l0_2) = some r := by first | (rw [hy321]; with_reducible exact H) | (have H2_ := (Option.bind_some _ _).symm.trans H; rw [hy321]; with_reducible exact H2_) | (have H2_ := (Option.bind_some _ _).symm.trans H; with_reducible exact H2_) | with_reducible exact H | (rw [hy321]; exact H) | exact H
        have Ny321 := As_ hy321
        clear hy321
        have H' := As_ H
        clear H
        have hnb65 := NB310_305.out
        have hnc65 := NB305_310.out
        obtain ⟨hcz66_0, hcz66_1, hcz66_2⟩ := c3_ (w := wr) BK310.out
        obtain ⟨hfz66_0, hfz66_1, hfz66_2⟩ := z3_ BK310.out
        go_wp2_with (first | ((with_reducible refine gate_dst (N := 75) rfl ?_); refine Kd.R_lit (Kd.int .i64) _ 3 ?hg (N := 75) ?hd (xs := ([((rd_T87 l0_2 x13_1).f0), ((rd_T87 l0_2 x13_1).f1)] : List Int)) (inner := [.int .i64 ((rd_T87 l0_2 x13_1).f0), .int .i64 ((rd_T87 l0_2 x13_1).f1)]) (ok := fun _ => True) (okp := fun _ => True) ?hr ?hp (fun _ hk => hk) trivial (Below.refl _ _) (Nat.le_refl _) (by simp) ?_; (case hd => rfl); (case hg => rfl); (case hr => first | (go_simp; done) | (go_simp; rfl)); (case hp => exact (Reps.one (show Kd.M (Kd.int .i64) _ _ _ ((rd_T87 l0_2 x13_1).f0) [.int .i64 ((rd_T87 l0_2 x13_1).f0)] from rfl) (Reps.one (show Kd.M (Kd.int .i64) _ _ _ ((rd_T87 l0_2 x13_1).f1) [.int .i64 ((rd_T87 l0_2 x13_1).f1)] from rfl) (Reps.none _ _)))); intro v319 w67 ho68 hb hg_ hnew_; clear hg_ hnew_; (first | rw [← Ny318.out] at ho68 | (simp only [Int.reduceToNat] at ho68; rw [← Ny318.out] at ho68)); have HO320 := As_ (Kd.R_lower ho68 (below_size (by repeat (first | (with_reducible first | exact HB.out | apply ba_ | apply bn_ | apply bd_ | refine below_setA ?_ (by assumption)) | exact HB.out)))); replace HO_3 := As_ (Kd.S_elder' (by (with_reducible repeat (first | apply Kd.S_alloc | apply Kd.S_drewN | apply Kd.S_drew)); exact HO_3.out) (Kd.R_base ho68) hb); replace BK305 := As_ (blk_b hb BK305.out); replace BK310 := As_ (blk_b hb BK310.out); replace HB := As_ (below_step (by repeat (first | (with_reducible first | exact HB.out | apply ba_ | apply bn_ | apply bd_ | refine below_setA ?_ (by assumption)) | exact HB.out)) hb); clear hb ho68; obtain ⟨Ao70, co70, eo70⟩ := Kd.R_slice HO320.out; subst eo70) | ((with_reducible refine gate_builtin (b := .append) (xs := #[.tmp 70, .tmp 76]) rfl ?_); at_builtin; refine Kd.S_append (Kd.slice 3 (Kd.int .i64)) (w0 := w) w.heap.size rfl (.tmp 70) (.tmp 76) 98 26 (.slice none 0 0) 24 rfl Try.underlying98 info26 rfl (by decide) (by omega) u3 x3_1 y318 [.slice Ao70 y318.length co70] (fun _ => True) (fun k_ => some k_ = (.slice Ao70 y318.length co70 : Value).ownBlock) rfl rfl ?aP (fun k_ hk_ => ((Kd.R_mono (ok' := fun k_ => ((fun _ => True)) k_ ∧ some k_ ≠ (u3 : Value).ownBlock) (Kd.R_apart' (HO320.out) (Kd.S_typed HO_3.out) (by decide)) (fun k_ hk => ⟨trivial, hk.2⟩))).1 k_ hk_.symm) ?aF ?aO ?aB ?aS ?aL ?_; (case aP => exact Kd.M_row (Kd.R_mono (Kd.R_tight rfl (Kd.R_mono (ok' := fun k_ => ((fun _ => True)) k_ ∧ some k_ ≠ (u3 : Value).ownBlock) (Kd.R_apart' (HO320.out) (Kd.S_typed HO_3.out) (by decide)) (fun k_ hk => ⟨trivial, hk.2⟩))) (fun _ h_ => h_))); (case aB => exact (by repeat (first | (with_reducible first | exact HB.out | apply ba_ | apply bn_ | apply bd_ | refine below_setA ?_ (by assumption)) | exact HB.out))); (case aF => exact (fun _ _ => trivial)); (case aO => exact (by (with_reducible repeat (first | apply Kd.S_alloc | apply Kd.S_drewN | apply Kd.S_drew)); exact Kd.S_mono HO_3.out (fun k_ hk => ⟨trivial, fun e_ => hk.2 e_⟩))); (case aS => exact (below_size (by repeat (first | (with_reducible first | exact HB.out | apply ba_ | apply bn_ | apply bd_ | refine below_setA ?_ (by assumption)) | exact HB.out)))); (case aL => have := LMc64.out; omega); intro v322 w69 ho hb hg hat; rw [← Ny321.out] at ho; have n0_ := As_ (blk_grown (g := gb305) (o := .cells #[.int .i64 a0_0, .int .i64 a0_1, .slice (some ad309) l0_2.length c0_2] 31 (0, 0)) BK305.out hg (Kd.S_ne HO_3.out BK305.out (by decide))); have n1_ := As_ (blk_grown (g := gb310) (o := .cells #[.int .i64 ((rd_T87 l0_2 x13_1).f0), .int .i64 ((rd_T87 l0_2 x13_1).f1), .int .i64 ((rd_T87 l0_2 x13_1).f2)] 87 (0, 0)) BK310.out hg (Kd.S_ne HO_3.out BK310.out (by decide))); have n2_ := As_ (hb); have n3_ := As_ (ho); clear BK305; clear BK310; clear HB; clear HO_3; clear HO320; have BK305 := n0_; have BK310 := n1_; have HB := n2_; have HO323 := n3_; clear n0_ n1_ n2_ n3_; clear ho hb hg hat))
        go_roundg k3
        case measure => have := HK1.out; have := HJ8.out; have := HK3.out; omega
        case rel => exact ⟨(y321), (wrap64 (x13_1 + 1)), (by first | rfl | (simp; done) | (simp [*]; done)), H', ⟨by have := HK1.out; have := HJ8.out; have := HK3.out; omega⟩, ⟨by (with_reducible repeat (first | apply Kd.S_alloc | apply Kd.S_drewN | apply Kd.S_drew)); exact HO323.out⟩, ⟨by (with_reducible repeat (first | refine kn_ ?_ _ | refine kd_ ?_ | refine ka_ ?_ _)); exact BK305.out⟩, ⟨by repeat (first | (with_reducible first | exact HB.out | apply ba_ | apply bn_ | apply bd_ | refine below_setA ?_ (by assumption)) | exact HB.out)⟩⟩
       ·
        rw [if_neg c63] at H
        have c63b0 : (x6_3 == 4) = false := beq_eq_false_iff_ne.mpr c63
        have c63b1 : (x6_3 != 4) = true := bne_iff_ne.mpr c63
        have H' := As_ H
        clear H
        go_wp2
        go_roundg k3
        case measure => have := HK1.out; have := HJ8.out; have := HK3.out; omega
        case rel => exact ⟨(x3_1), (wrap64 (x13_1 + 1)), (by first | rfl | (simp; done) | (simp [*]; done)), H', ⟨by have := HK1.out; have := HJ8.out; have := HK3.out; omega⟩, ⟨by (with_reducible repeat (first | apply Kd.S_alloc | apply Kd.S_drewN | apply Kd.S_drew)); exact HO_3.out⟩, ⟨by (with_reducible repeat (first | refine kn_ ?_ _ | refine kd_ ?_ | refine ka_ ?_ _)); exact BK305.out⟩, ⟨by repeat (first | (with_reducible first | exact HB.out | apply ba_ | apply bn_ | apply bd_ | refine below_setA ?_ (by assumption)) | exact HB.out)⟩⟩
  ·
   rw [if_neg c6] at H
   have c6b0 : decide (x13_1 < (l0_2.length : Int)) = false := decide_eq_false c6
   clear c6
   obtain rfl := Option.some.inj H
   go_wp2
   go_ret
   exact ⟨_, by first | rfl | (simp <;> rfl) | (simp [*] <;> rfl), by (with_reducible repeat (first | apply Kd.S_alloc | apply Kd.S_drewN | apply Kd.S_drew)); exact HO_3.out, by repeat (first | (with_reducible first | exact HB.out | apply ba_ | apply bn_ | apply bd_ | refine bs_ ?_ GE305.out) | exact HB.out)⟩

end Go.Proofs.Ytipiaiolhhnnhaa.PFnExactMakePuzzle
