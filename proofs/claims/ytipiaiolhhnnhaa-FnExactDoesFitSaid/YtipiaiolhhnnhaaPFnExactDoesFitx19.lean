-- Written by a program of this session (wip/tools/pg.py) out of the translation.
import Derived.Test.YtipiaiolhhnnhaaPFnExactDoesFitx0
namespace Go.Proofs.Ytipiaiolhhnnhaa.PFnExactDoesFit
open Go.RowKit Go.Proofs.YtipiaiolhhnnhaaW.PrintWords Go.Proofs.YtipiaiolhhnnhaaW.PrintLast Go.Proofs.YtipiaiolhhnnhaaW.PrintMore Go.Proofs.YtipiaiolhhnnhaaH
attribute [local go_sem] max2_int min2_int max_two min_two max_three min_three max_four min_four   -- for this text's walks alone
set_option linter.unusedVariables false
set_option linter.unusedSimpArgs false

/-! ### impl_Cut_linesAcross: function 100 -/
mutual
def impl_Cut_linesAcross.l0 : Nat → List (List Int) → Int → Int → Int → Int → List (S87) → Option ((List (List Int)))
  | 0, _, _, _, _, _, _ => none
  | k + 1, x3, x14, x15, x314000, x314001, x314002 => if x15 < x14 then (if 0 ≤ x314000 then (if (x314000 : Int).toNat ≤ 281474976710656 then (impl_Cut_linesAcross.l1 k x3 x15 (List.replicate (x314000 : Int).toNat false) x14 x15 x314002 (x314002.length : Int) 0 x314000 x314001 x314002) else (none)) else (none)) else (some x3)
def impl_Cut_linesAcross.l1 : Nat → List (List Int) → Int → List Bool → Int → Int → List (S87) → Int → Int → Int → Int → List (S87) → Option ((List (List Int)))
  | 0, _, _, _, _, _, _, _, _, _, _, _ => none
  | k + 1, x3, x4, x5, x14, x15, x22, x23, x24, x314000, x314001, x314002 => if x24 < x23 then (if 0 ≤ x24 then (if x24 < (x22.length : Int) then (if ((rd_T87 x22 x24).f1) = x4 then (impl_Cut_linesAcross.j2 k x3 x4 x5 x14 x15 x22 x23 x24 true x314000 x314001 x314002 ((rd_T87 x22 x24).f0) ((rd_T87 x22 x24).f1) ((rd_T87 x22 x24).f2)) else (impl_Cut_linesAcross.j2 k x3 x4 x5 x14 x15 x22 x23 x24 ((wrap64 (((rd_T87 x22 x24).f1) + ((rd_T87 x22 x24).f2))) == x4) x314000 x314001 x314002 ((rd_T87 x22 x24).f0) ((rd_T87 x22 x24).f1) ((rd_T87 x22 x24).f2))) else (none)) else (none)) else (impl_Cut_linesAcross.l3 k x3 x4 x5 x14 x15 x5 (x5.length : Int) 0 x314000 x314001 x314002)
def impl_Cut_linesAcross.j2 : Nat → List (List Int) → Int → List Bool → Int → Int → List (S87) → Int → Int → Bool → Int → Int → List (S87) → Int → Int → Int → Option ((List (List Int)))
  | 0, _, _, _, _, _, _, _, _, _, _, _, _, _, _, _ => none
  | k + 1, x3, x4, x5, x14, x15, x22, x23, x24, x40, x314000, x314001, x314002, x322000, x322001, x322002 => if x40 = true then (impl_Cut_linesAcross.l2 k x3 x4 x5 x322000 x14 x15 x22 x23 x24 x314000 x314001 x314002 x322000 x322001 x322002) else (impl_Cut_linesAcross.l1 k x3 x4 x5 x14 x15 x22 x23 (wrap64 (x24 + 1)) x314000 x314001 x314002)
def impl_Cut_linesAcross.l2 : Nat → List (List Int) → Int → List Bool → Int → Int → Int → List (S87) → Int → Int → Int → Int → List (S87) → Int → Int → Int → Option ((List (List Int)))
  | 0, _, _, _, _, _, _, _, _, _, _, _, _, _, _, _ => none
  | k + 1, x3, x4, x5, x8, x14, x15, x22, x23, x24, x314000, x314001, x314002, x322000, x322001, x322002 => if x8 < (wrap64 (x322000 + x322002)) then (if 0 ≤ x8 then (if x8 < (x5.length : Int) then (impl_Cut_linesAcross.l2 k x3 x4 (x5.set (x8 : Int).toNat true) (wrap64 (x8 + 1)) x14 x15 x22 x23 x24 x314000 x314001 x314002 x322000 x322001 x322002) else (none)) else (none)) else (impl_Cut_linesAcross.l1 k x3 x4 x5 x14 x15 x22 x23 (wrap64 (x24 + 1)) x314000 x314001 x314002)
def impl_Cut_linesAcross.l3 : Nat → List (List Int) → Int → List Bool → Int → Int → List Bool → Int → Int → Int → Int → List (S87) → Option ((List (List Int)))
  | 0, _, _, _, _, _, _, _, _, _, _, _ => none
  | k + 1, x3, x4, x5, x14, x15, x56, x57, x58, x314000, x314001, x314002 => if x58 < x57 then (if 0 ≤ x58 then (if x58 < (x56.length : Int) then (if rdOf false x56 x58 = true then (if x58 > 0 then (if 0 ≤ (wrap64 (x58 - 1)) then (if (wrap64 (x58 - 1)) < (x5.length : Int) then (if rdOf false x5 (wrap64 (x58 - 1)) = true then (if 0 ≤ (wrap64 ((x3.length : Int) - 1)) then (if (wrap64 ((x3.length : Int) - 1)) < (x3.length : Int) then (if 2 < ((rd_L5 x3 (wrap64 ((x3.length : Int) - 1))).length : Int) then (impl_Cut_linesAcross.l3 k (x3.set ((wrap64 ((x3.length : Int) - 1)) : Int).toNat ((rd_L5 x3 (wrap64 ((x3.length : Int) - 1))).set (2 : Int).toNat (wrap64 (x58 + 1)))) x4 x5 x14 x15 x56 x57 (wrap64 (x58 + 1)) x314000 x314001 x314002) else (none)) else (none)) else (none)) else (if x3.length < 5864062014805 then (impl_Cut_linesAcross.l3 k (x3 ++ [(([x4, x58, wrap64 (x58 + 1)] : List Int))]) x4 x5 x14 x15 x56 x57 (wrap64 (x58 + 1)) x314000 x314001 x314002) else (none))) else (none)) else (none)) else (if x3.length < 5864062014805 then (impl_Cut_linesAcross.l3 k (x3 ++ [(([x4, x58, wrap64 (x58 + 1)] : List Int))]) x4 x5 x14 x15 x56 x57 (wrap64 (x58 + 1)) x314000 x314001 x314002) else (none))) else (impl_Cut_linesAcross.l3 k x3 x4 x5 x14 x15 x56 x57 (wrap64 (x58 + 1)) x314000 x314001 x314002)) else (none)) else (none)) else (impl_Cut_linesAcross.l0 k x3 x14 (wrap64 (x15 + 1)) x314000 x314001 x314002)
end
def impl_Cut_linesAcross.f (k : Nat) (a0_0 : Int) (a0_1 : Int) (l0_2 : List (S87)) : Option ((List (List Int))) := impl_Cut_linesAcross.l0 k (([] : List (List Int))) (wrap64 (a0_1 + 1)) 0 a0_0 a0_1 l0_2
theorem impl_Cut_linesAcross.mono_l : ∀ k, (∀ y0 y1 y2 y3 y4 y5, LeO (impl_Cut_linesAcross.l0 k y0 y1 y2 y3 y4 y5) (impl_Cut_linesAcross.l0 (k + 1) y0 y1 y2 y3 y4 y5)) ∧ (∀ y0 y1 y2 y3 y4 y5 y6 y7 y8 y9 y10, LeO (impl_Cut_linesAcross.l1 k y0 y1 y2 y3 y4 y5 y6 y7 y8 y9 y10) (impl_Cut_linesAcross.l1 (k + 1) y0 y1 y2 y3 y4 y5 y6 y7 y8 y9 y10)) ∧ (∀ y0 y1 y2 y3 y4 y5 y6 y7 y8 y9 y10 y11 y12 y13 y14, LeO (impl_Cut_linesAcross.j2 k y0 y1 y2 y3 y4 y5 y6 y7 y8 y9 y10 y11 y12 y13 y14) (impl_Cut_linesAcross.j2 (k + 1) y0 y1 y2 y3 y4 y5 y6 y7 y8 y9 y10 y11 y12 y13 y14)) ∧ (∀ y0 y1 y2 y3 y4 y5 y6 y7 y8 y9 y10 y11 y12 y13 y14, LeO (impl_Cut_linesAcross.l2 k y0 y1 y2 y3 y4 y5 y6 y7 y8 y9 y10 y11 y12 y13 y14) (impl_Cut_linesAcross.l2 (k + 1) y0 y1 y2 y3 y4 y5 y6 y7 y8 y9 y10 y11 y12 y13 y14)) ∧ (∀ y0 y1 y2 y3 y4 y5 y6 y7 y8 y9 y10, LeO (impl_Cut_linesAcross.l3 k y0 y1 y2 y3 y4 y5 y6 y7 y8 y9 y10) (impl_Cut_linesAcross.l3 (k + 1) y0 y1 y2 y3 y4 y5 y6 y7 y8 y9 y10))
  | 0 => ⟨fun _ _ _ _ _ _ r h => by simp [impl_Cut_linesAcross.l0] at h, fun _ _ _ _ _ _ _ _ _ _ _ r h => by simp [impl_Cut_linesAcross.l1] at h, fun _ _ _ _ _ _ _ _ _ _ _ _ _ _ _ r h => by simp [impl_Cut_linesAcross.j2] at h, fun _ _ _ _ _ _ _ _ _ _ _ _ _ _ _ r h => by simp [impl_Cut_linesAcross.l2] at h, fun _ _ _ _ _ _ _ _ _ _ _ r h => by simp [impl_Cut_linesAcross.l3] at h⟩
  | k + 1 => by
    obtain ⟨ih0, ih1, ih2, ih3, ih4⟩ := impl_Cut_linesAcross.mono_l k
    refine ⟨?_, ?_, ?_, ?_, ?_⟩
    · intro y0 y1 y2 y3 y4 y5
      unfold impl_Cut_linesAcross.l0
      repeat' first
      | (with_reducible exact ih0 _ _ _ _ _ _)
      | (with_reducible exact ih1 _ _ _ _ _ _ _ _ _ _ _)
      | (with_reducible exact ih2 _ _ _ _ _ _ _ _ _ _ _ _ _ _ _)
      | (with_reducible exact ih3 _ _ _ _ _ _ _ _ _ _ _ _ _ _ _)
      | (with_reducible exact ih4 _ _ _ _ _ _ _ _ _ _ _)
      | (with_reducible exact LeO.refl _)
      | (with_reducible exact LeO.none _)
      | (with_reducible refine LeO.ite ?_ ?_)
      | (with_reducible refine LeO.bind ?_ (fun _ => ?_))
      | exact ih0 _ _ _ _ _ _
      | exact ih1 _ _ _ _ _ _ _ _ _ _ _
      | exact ih2 _ _ _ _ _ _ _ _ _ _ _ _ _ _ _
      | exact ih3 _ _ _ _ _ _ _ _ _ _ _ _ _ _ _
      | exact ih4 _ _ _ _ _ _ _ _ _ _ _
      | exact LeO.none _
      | refine LeO.ite ?_ ?_
      | refine LeO.bind ?_ (fun _ => ?_)
    · intro y0 y1 y2 y3 y4 y5 y6 y7 y8 y9 y10
      unfold impl_Cut_linesAcross.l1
      repeat' first
      | (with_reducible exact ih0 _ _ _ _ _ _)
      | (with_reducible exact ih1 _ _ _ _ _ _ _ _ _ _ _)
      | (with_reducible exact ih2 _ _ _ _ _ _ _ _ _ _ _ _ _ _ _)
      | (with_reducible exact ih3 _ _ _ _ _ _ _ _ _ _ _ _ _ _ _)
      | (with_reducible exact ih4 _ _ _ _ _ _ _ _ _ _ _)
      | (with_reducible exact LeO.refl _)
      | (with_reducible exact LeO.none _)
      | (with_reducible refine LeO.ite ?_ ?_)
      | (with_reducible refine LeO.bind ?_ (fun _ => ?_))
      | exact ih0 _ _ _ _ _ _
      | exact ih1 _ _ _ _ _ _ _ _ _ _ _
      | exact ih2 _ _ _ _ _ _ _ _ _ _ _ _ _ _ _
      | exact ih3 _ _ _ _ _ _ _ _ _ _ _ _ _ _ _
      | exact ih4 _ _ _ _ _ _ _ _ _ _ _
      | exact LeO.none _
      | refine LeO.ite ?_ ?_
      | refine LeO.bind ?_ (fun _ => ?_)
    · intro y0 y1 y2 y3 y4 y5 y6 y7 y8 y9 y10 y11 y12 y13 y14
      unfold impl_Cut_linesAcross.j2
      repeat' first
      | (with_reducible exact ih0 _ _ _ _ _ _)
      | (with_reducible exact ih1 _ _ _ _ _ _ _ _ _ _ _)
      | (with_reducible exact ih2 _ _ _ _ _ _ _ _ _ _ _ _ _ _ _)
      | (with_reducible exact ih3 _ _ _ _ _ _ _ _ _ _ _ _ _ _ _)
      | (with_reducible exact ih4 _ _ _ _ _ _ _ _ _ _ _)
      | (with_reducible exact LeO.refl _)
      | (with_reducible exact LeO.none _)
      | (with_reducible refine LeO.ite ?_ ?_)
      | (with_reducible refine LeO.bind ?_ (fun _ => ?_))
      | exact ih0 _ _ _ _ _ _
      | exact ih1 _ _ _ _ _ _ _ _ _ _ _
      | exact ih2 _ _ _ _ _ _ _ _ _ _ _ _ _ _ _
      | exact ih3 _ _ _ _ _ _ _ _ _ _ _ _ _ _ _
      | exact ih4 _ _ _ _ _ _ _ _ _ _ _
      | exact LeO.none _
      | refine LeO.ite ?_ ?_
      | refine LeO.bind ?_ (fun _ => ?_)
    · intro y0 y1 y2 y3 y4 y5 y6 y7 y8 y9 y10 y11 y12 y13 y14
      unfold impl_Cut_linesAcross.l2
      repeat' first
      | (with_reducible exact ih0 _ _ _ _ _ _)
      | (with_reducible exact ih1 _ _ _ _ _ _ _ _ _ _ _)
      | (with_reducible exact ih2 _ _ _ _ _ _ _ _ _ _ _ _ _ _ _)
      | (with_reducible exact ih3 _ _ _ _ _ _ _ _ _ _ _ _ _ _ _)
      | (with_reducible exact ih4 _ _ _ _ _ _ _ _ _ _ _)
      | (with_reducible exact LeO.refl _)
      | (with_reducible exact LeO.none _)
      | (with_reducible refine LeO.ite ?_ ?_)
      | (with_reducible refine LeO.bind ?_ (fun _ => ?_))
      | exact ih0 _ _ _ _ _ _
      | exact ih1 _ _ _ _ _ _ _ _ _ _ _
      | exact ih2 _ _ _ _ _ _ _ _ _ _ _ _ _ _ _
      | exact ih3 _ _ _ _ _ _ _ _ _ _ _ _ _ _ _
      | exact ih4 _ _ _ _ _ _ _ _ _ _ _
      | exact LeO.none _
      | refine LeO.ite ?_ ?_
      | refine LeO.bind ?_ (fun _ => ?_)
    · intro y0 y1 y2 y3 y4 y5 y6 y7 y8 y9 y10
      unfold impl_Cut_linesAcross.l3
      repeat' first
      | (with_reducible exact ih0 _ _ _ _ _ _)
      | (with_reducible exact ih1 _ _ _ _ _ _ _ _ _ _ _)
      | (with_reducible exact ih2 _ _ _ _ _ _ _ _ _ _ _ _ _ _ _)
      | (with_reducible exact ih3 _ _ _ _ _ _ _ _ _ _ _ _ _ _ _)
      | (with_reducible exact ih4 _ _ _ _ _ _ _ _ _ _ _)
      | (with_reducible exact LeO.refl _)
      | (with_reducible exact LeO.none _)
      | (with_reducible refine LeO.ite ?_ ?_)
      | (with_reducible refine LeO.bind ?_ (fun _ => ?_))
      | exact ih0 _ _ _ _ _ _
      | exact ih1 _ _ _ _ _ _ _ _ _ _ _
      | exact ih2 _ _ _ _ _ _ _ _ _ _ _ _ _ _ _
      | exact ih3 _ _ _ _ _ _ _ _ _ _ _ _ _ _ _
      | exact ih4 _ _ _ _ _ _ _ _ _ _ _
      | exact LeO.none _
      | refine LeO.ite ?_ ?_
      | refine LeO.bind ?_ (fun _ => ?_)
theorem impl_Cut_linesAcross.mono : ∀ a0 a1 a2 k, LeO (impl_Cut_linesAcross.f k a0 a1 a2) (impl_Cut_linesAcross.f (k + 1) a0 a1 a2) := by
  intro a0 a1 a2 k
  obtain ⟨ih0, ih1, ih2, ih3, ih4⟩ := impl_Cut_linesAcross.mono_l k
  unfold impl_Cut_linesAcross.f
  repeat' first
      | (with_reducible exact ih0 _ _ _ _ _ _)
      | (with_reducible exact ih1 _ _ _ _ _ _ _ _ _ _ _)
      | (with_reducible exact ih2 _ _ _ _ _ _ _ _ _ _ _ _ _ _ _)
      | (with_reducible exact ih3 _ _ _ _ _ _ _ _ _ _ _ _ _ _ _)
      | (with_reducible exact ih4 _ _ _ _ _ _ _ _ _ _ _)
      | (with_reducible exact LeO.refl _)
      | (with_reducible exact LeO.none _)
      | (with_reducible refine LeO.ite ?_ ?_)
      | (with_reducible refine LeO.bind ?_ (fun _ => ?_))
      | exact ih0 _ _ _ _ _ _
      | exact ih1 _ _ _ _ _ _ _ _ _ _ _
      | exact ih2 _ _ _ _ _ _ _ _ _ _ _ _ _ _ _
      | exact ih3 _ _ _ _ _ _ _ _ _ _ _ _ _ _ _
      | exact ih4 _ _ _ _ _ _ _ _ _ _ _
      | exact LeO.none _
      | refine LeO.ite ?_ ?_
      | refine LeO.bind ?_ (fun _ => ?_)
set_option maxHeartbeats 8000000 in
set_option maxRecDepth 100000 in
theorem impl_Cut_linesAcross.calls (k : Nat) (a0_0 : Int) (a0_1 : Int) (A0_2 : Option Addr) (c0_2 : Nat) (l0_2 : List (S87)) (r : List (List Int)) (w : World) (hr0_2 : Kd.C k87 w A0_2 l0_2.length l0_2) (hc0_2 : l0_2.length ≤ c0_2) (h : impl_Cut_linesAcross.f k a0_0 a0_1 l0_2 = some r) :
    Calls Try.prog 100 #[.agg #[.int .i64 a0_0, .int .i64 a0_1, .slice A0_2 l0_2.length c0_2]] w fun e w' => ∃ v0_ : Value, e = .returned (v0_) ∧ Kd.S (Kd.slice 3 (Kd.int .i64)) 26 w' w.heap.size (fun _ => True) v0_ r ∧ Below w.heap.size w w' := by
  have hu31 := Try.underlying31
  have hu87 := Try.underlying87
  have HR0_2 := As_ hr0_2
  have HC0_2 := As_ hc0_2
  clear hr0_2 hc0_2
  have HB := As_ (Below.refl w.heap.size w)
  have H : (impl_Cut_linesAcross.l0 k (([] : List (List Int))) (wrap64 (a0_1 + 1)) 0 a0_0 a0_1 l0_2) = some r := h
  clear h
  obtain ⟨y314, hy314⟩ : ∃ y_ : List (List Int), y_ = (([] : List (List Int))) := ⟨_, rfl⟩
  replace H : (impl_Cut_linesAcross.l0 k y314 (wrap64 (a0_1 + 1)) 0 a0_0 a0_1 l0_2) = some r := by first | (rw [hy314]; with_reducible exact H) | (have H2_ := (Option.bind_some _ _).symm.trans H; rw [hy314]; with_reducible exact H2_) | (have H2_ := (Option.bind_some _ _).symm.trans H; with_reducible exact H2_) | with_reducible exact H | (rw [hy314]; exact H) | exact H
  have Ny314 := As_ hy314
  clear hy314
  have H' := As_ H
  clear H
  go_enter Try.func100, Try.ntmps100
  go_wp2_with (first | ((with_reducible refine gate_dst (N := 1) rfl ?_); refine box_event ?hg (N := 1) ?hd (cs := #[.int .i64 a0_0, .int .i64 a0_1, .slice A0_2 l0_2.length c0_2]) (t := 31) ?hr ?_; (case hd => rfl); (case hg => rfl); (case hr => first | (go_simp; done) | (go_simp; rfl)); intro gb313 hg w2 hbox hb; have BK313 := As_ (hbox); have hW_ := bel_ w hb (by repeat (first | (with_reducible first | exact HB.out | apply below_alloc | apply pw_below_drewN | apply below_drew1) | exact HB.out)); have GE313 := As_ (gesz hg hW_); replace HB := As_ (below_step hW_ hb); clear hW_ hb hbox hg) | ((with_reducible refine gate_dst (N := 11) rfl ?_); refine Kd.S_lit (Kd.slice 3 (Kd.int .i64)) _ 26 ?hg (N := 11) ?hd (xs := ([] : List (List Int))) (inner := []) (ok := fun _ => True) (okp := fun _ => True) ?hr ?hp (fun _ hk => hk) trivial (Below.refl _ _) (Nat.le_refl _) (by simp) ?_; (case hd => rfl); (case hg => rfl); (case hr => first | (go_simp; done) | (go_simp; rfl)); (case hp => exact (Reps.none _ _)); intro v315 w3 ho4 hb hg_ hnew_; clear hg_ hnew_; (first | rw [← Ny314.out] at ho4 | (simp only [Int.reduceToNat] at ho4; rw [← Ny314.out] at ho4)); have HO316 := As_ (Kd.S_lower ho4 (below_size (by repeat (first | (with_reducible first | exact HB.out | apply below_alloc | apply pw_below_drewN | apply below_drew1 | refine below_set ?_ GE313.out) | exact HB.out)))); replace BK313 := As_ (blk_b hb BK313.out); replace HB := As_ (below_step (by repeat (first | (with_reducible first | exact HB.out | apply below_alloc | apply pw_below_drewN | apply below_drew1 | refine below_set ?_ GE313.out) | exact HB.out)) hb); clear hb ho4; obtain ⟨hcz5_0, hcz5_1, hcz5_2⟩ := c3_ (w := w3) BK313.out; obtain ⟨hfz5_0, hfz5_1, hfz5_2⟩ := z3_ BK313.out))
  go_loopg [3, 15] k (fun kq v3 v15 w' => ∃ (x3_1 : List (List Int)) (x15_1 : Int), v15 = .int .i64 x15_1 ∧ Aside0 (impl_Cut_linesAcross.l0 kq x3_1 (wrap64 (a0_1 + 1)) x15_1 a0_0 a0_1 l0_2 = some r) ∧ Aside0 (kq ≤ k) ∧ Aside0 (Kd.S (Kd.slice 3 (Kd.int .i64)) 26 w' w.heap.size (fun _ => True) v3 x3_1) ∧ Aside0 (w'.heap[gb313]? = some (.cells #[.int .i64 a0_0, .int .i64 a0_1, (.slice A0_2 l0_2.length c0_2)] 31 (0, 0))) ∧ Aside0 (Below w.heap.size w w'))
  case atStart => exact ⟨(y314), (0), (by first | rfl | (simp; done) | (simp [*]; done)), H', ⟨Nat.le_refl _⟩, ⟨by (with_reducible repeat (first | apply Kd.S_alloc | apply Kd.S_drewN | apply Kd.S_drew)); exact HO316.out⟩, ⟨by (with_reducible repeat (first | refine blk_drewN ?_ _ | refine blk_drew ?_ | refine blk_alloc ?_ _)); exact BK313.out⟩, ⟨by repeat (first | (with_reducible first | exact HB.out | apply below_alloc | apply pw_below_drewN | apply below_drew1 | refine below_set ?_ GE313.out) | exact HB.out)⟩⟩
  case round =>
    clear H'
    try clear c1; try clear p2; try clear hcz5_0; try clear hcz5_1; try clear hcz5_2; try clear hfz5_0; try clear hfz5_1; try clear hfz5_2
    obtain ⟨x3_1, x15_1, rfl, HA, HK1, HO_3, BK313, HB⟩ := hrel
    rcases gk with _ | k1
    · exact absurd HA.out (by simp [impl_Cut_linesAcross.l0])
    have H := HA.out
    clear HA
    simp only [impl_Cut_linesAcross.l0] at H
    by_cases c6 : x15_1 < (wrap64 (a0_1 + 1))
    · rw [if_pos c6] at H
      have c6b0 : decide (x15_1 < (wrap64 (a0_1 + 1))) = true := decide_eq_true c6
      clear c6
      by_cases c7 : 0 ≤ a0_0
      case neg => rw [if_neg c7] at H; exact absurd H (by simp)
      rw [if_pos c7] at H
      have c7b0 := eq_true c7
      have c7b1 : decide (0 ≤ a0_0) = true := decide_eq_true c7
      clear c7
      by_cases c8 : (a0_0 : Int).toNat ≤ 281474976710656
      case neg => rw [if_neg c8] at H; exact absurd H (by simp)
      rw [if_pos c8] at H
      have c8b0 := eq_true c8
      have c8b1 : decide ((a0_0 : Int).toNat ≤ 281474976710656) = true := decide_eq_true c8
      clear c8
      obtain ⟨y317, hy317⟩ : ∃ y_ : List Bool, y_ = (List.replicate (a0_0 : Int).toNat false) := ⟨_, rfl⟩
      replace H : (impl_Cut_linesAcross.l1 k1 x3_1 x15_1 y317 (wrap64 (a0_1 + 1)) x15_1 l0_2 (l0_2.length : Int) 0 a0_0 a0_1 l0_2) = some r := by first | (rw [hy317]; with_reducible exact H) | (have H2_ := (Option.bind_some _ _).symm.trans H; rw [hy317]; with_reducible exact H2_) | (have H2_ := (Option.bind_some _ _).symm.trans H; with_reducible exact H2_) | with_reducible exact H | (rw [hy317]; exact H) | exact H
      have Ny317 := As_ hy317
      clear hy317
      have H' := As_ H
      clear H
      obtain ⟨hcz9_0, hcz9_1, hcz9_2⟩ := c3_ (w := wr) BK313.out
      obtain ⟨hfz9_0, hfz9_1, hfz9_2⟩ := z3_ BK313.out
      go_wp2_with (first | ((with_reducible refine gate_dst (N := 20) rfl ?_); refine Kd.R_make Kd.bool _ 4 rfl (N := 20) rfl 132 _ _ rfl a0_0 rfl rfl Try.underlying132 (.bool false) 1 info4 rfl (by decide) (by omega) false (ok := fun _ => True) (okp := fun _ => True) rfl (fun _ hk => hk) trivial (of_decide_eq_true (by first | (with_reducible assumption) | assumption)) (Nat.le_trans (Nat.mul_le_mul_right _ (of_decide_eq_true (by first | (with_reducible assumption) | assumption) : a0_0.toNat ≤ 281474976710656)) (by omega)) (Below.refl _ _) (Nat.le_refl _) ?_; intro v318 w10 ho11 hb hg_ hnew_; clear hg_ hnew_; (first | rw [← Ny317.out] at ho11 | (simp only [Int.reduceToNat] at ho11; rw [← Ny317.out] at ho11)); have HO319 := As_ (Kd.R_lower ho11 (below_size (by repeat (first | (with_reducible first | exact HB.out | apply below_alloc | apply pw_below_drewN | apply below_drew1 | refine below_set ?_ GE313.out) | exact HB.out)))); replace HO_3 := As_ (Kd.S_below (by (with_reducible repeat (first | apply Kd.S_alloc | apply Kd.S_drewN | apply Kd.S_drew)); exact HO_3.out) hb); replace BK313 := As_ (blk_b hb BK313.out); replace HB := As_ (below_step (by repeat (first | (with_reducible first | exact HB.out | apply below_alloc | apply pw_below_drewN | apply below_drew1 | refine below_set ?_ GE313.out) | exact HB.out)) hb); clear hb ho11; obtain ⟨hcz12_0, hcz12_1, hcz12_2⟩ := c3_ (w := w10) BK313.out; obtain ⟨hfz12_0, hfz12_1, hfz12_2⟩ := z3_ BK313.out))
      go_loopg [24] k1 (fun kq v24 w' => ∃ (x5_2 : List Bool) (x24_2 : Int), v24 = .int .i64 x24_2 ∧ Aside0 (impl_Cut_linesAcross.l1 kq x3_1 x15_1 x5_2 (wrap64 (a0_1 + 1)) x15_1 l0_2 (l0_2.length : Int) x24_2 a0_0 a0_1 l0_2 = some r) ∧ Aside0 (kq ≤ k1) ∧ Aside0 (Kd.S (Kd.slice 3 (Kd.int .i64)) 26 w' w.heap.size (fun _ => True) u3 x3_1) ∧ Aside0 (Kd.R Kd.bool 4 w' w.heap.size (fun _ => True) v318 x5_2) ∧ Aside0 (w'.heap[gb313]? = some (.cells #[.int .i64 a0_0, .int .i64 a0_1, (.slice A0_2 l0_2.length c0_2)] 31 (0, 0))) ∧ Aside0 (Below w.heap.size w w'))
      case atStart => exact ⟨(y317), (0), (by first | rfl | (simp; done) | (simp [*]; done)), H', ⟨Nat.le_refl _⟩, ⟨by (with_reducible repeat (first | apply Kd.S_alloc | apply Kd.S_drewN | apply Kd.S_drew)); exact HO_3.out⟩, ⟨by (with_reducible repeat (first | apply Kd.R_alloc | apply Kd.R_drewN | apply Kd.R_drew)); exact HO319.out⟩, ⟨by (with_reducible repeat (first | refine blk_drewN ?_ _ | refine blk_drew ?_ | refine blk_alloc ?_ _)); exact BK313.out⟩, ⟨by repeat (first | (with_reducible first | exact HB.out | apply below_alloc | apply pw_below_drewN | apply below_drew1 | refine below_set ?_ GE313.out) | exact HB.out)⟩⟩
      case round =>
        clear H'
        try clear c1; try clear p2; try clear c6; try clear c6b0; try clear p6; try clear c7; try clear c7b0; try clear c7b1; try clear c8; try clear c8b0; try clear c8b1; try clear c10; try clear hcz12_0; try clear hcz12_1; try clear hcz12_2; try clear hcz5_0; try clear hcz5_1; try clear hcz5_2; try clear hcz9_0; try clear hcz9_1; try clear hcz9_2; try clear hfz12_0; try clear hfz12_1; try clear hfz12_2; try clear hfz5_0; try clear hfz5_1; try clear hfz5_2; try clear hfz9_0; try clear hfz9_1; try clear hfz9_2; try clear p2
        obtain ⟨x5_2, x24_2, rfl, HA, HK2, HO_3, HO_5, BK313, HB⟩ := hrel
        rcases gk with _ | k2
        · exact absurd HA.out (by simp [impl_Cut_linesAcross.l1])
        have H := HA.out
        clear HA
        simp only [impl_Cut_linesAcross.l1] at H
        by_cases c13 : x24_2 < (l0_2.length : Int)
        · rw [if_pos c13] at H
          have c13b0 : decide (x24_2 < (l0_2.length : Int)) = true := decide_eq_true c13
          clear c13
          by_cases c14 : 0 ≤ x24_2
          case neg => rw [if_neg c14] at H; exact absurd H (by simp)
          rw [if_pos c14] at H
          have c14b0 : decide (0 ≤ x24_2) = true := decide_eq_true c14
          clear c14
          by_cases c15 : x24_2 < (l0_2.length : Int)
          case neg => rw [if_neg c15] at H; exact absurd H (by simp)
          rw [if_pos c15] at H
          have c15b0 : decide (x24_2 < (l0_2.length : Int)) = true := decide_eq_true c15
          clear c15
          have HC16 := As_ H
          clear H
          have p320 : 0 ≤ (x24_2 : Int) := of_decide_eq_true (by first | (with_reducible assumption) | assumption)
          have q320 : x24_2 < (l0_2.length : Int) := of_decide_eq_true (by first | (with_reducible assumption) | assumption)
          obtain ⟨ad320, e320, hx320_0, hx320_1, hx320_2⟩ := at_T87 HR0_2.out x24_2 p320 q320
          cases e320
          replace hx320_0 := (HB.out.cell (World.block_lt_of_cell? w _ hx320_0)).trans hx320_0
          replace hx320_1 := (HB.out.cell (World.block_lt_of_cell? w _ hx320_1)).trans hx320_1
          replace hx320_2 := (HB.out.cell (World.block_lt_of_cell? w _ hx320_2)).trans hx320_2
          replace p320 := eq_true p320
          replace q320 := eq_true q320
          go_upto_region 9 with (first | ((with_reducible refine gate_dst (N := 7) rfl ?_); refine box_event ?hg (N := 7) ?hd (cs := #[.int .i64 0, .int .i64 0, .int .i64 0]) (t := 87) ?hr ?_; (case hd => rfl); (case hg => rfl); (case hr => first | (go_simp; done) | (go_simp; rfl)); intro gb321 hg w17 hbox hb; have BK321 := As_ (hbox); have hW_ := bel_ w hb (by repeat (first | (with_reducible first | exact HB.out | apply below_alloc | apply pw_below_drewN | apply below_drew1 | refine below_set ?_ GE313.out) | exact HB.out)); have GE321 := As_ (gesz hg hW_); have NB313_321 := As_ (ne_lt hg BK313.out); have NB321_313 := As_ (ne_gt hg BK313.out); replace HO_3 := As_ (Kd.S_below (by (with_reducible repeat (first | apply Kd.S_alloc | apply Kd.S_drewN | apply Kd.S_drew)); exact HO_3.out) hb); replace HO_5 := As_ (Kd.R_below (by (with_reducible repeat (first | apply Kd.R_alloc | apply Kd.R_drewN | apply Kd.R_drew)); exact HO_5.out) hb); replace BK313 := As_ (blk_b hb BK313.out); replace HB := As_ (below_step hW_ hb); clear hW_ hb hbox hg; have hnb18 := NB321_313.out; have hnc18 := NB313_321.out; obtain ⟨hcz19_0, hcz19_1, hcz19_2⟩ := c3_ (w := w17) BK321.out; obtain ⟨hfz19_0, hfz19_1, hfz19_2⟩ := z3_ BK321.out))
          (try simp only [Act.put, sib_, sc0_, sc1_])
          go_cut [40] (fun v40 wc => ∃ (kq : Nat) (x40_15 : Bool), v40 = .bool x40_15 ∧ Aside0 (impl_Cut_linesAcross.j2 kq x3_1 x15_1 x5_2 (wrap64 (a0_1 + 1)) x15_1 l0_2 (l0_2.length : Int) x24_2 x40_15 a0_0 a0_1 l0_2 ((rd_T87 l0_2 x24_2).f0) ((rd_T87 l0_2 x24_2).f1) ((rd_T87 l0_2 x24_2).f2) = some r) ∧ Aside0 (kq ≤ k2) ∧ Aside0 (Kd.S (Kd.slice 3 (Kd.int .i64)) 26 wc w.heap.size (fun _ => True) u3 x3_1) ∧ Aside0 (Kd.R Kd.bool 4 wc w.heap.size (fun _ => True) v318 x5_2) ∧ Aside0 (wc.heap[gb313]? = some (.cells #[.int .i64 a0_0, .int .i64 a0_1, (.slice (some ad320) l0_2.length c0_2)] 31 (0, 0))) ∧ Aside0 (wc.heap[gb321]? = some (.cells #[.int .i64 ((rd_T87 l0_2 x24_2).f0), .int .i64 ((rd_T87 l0_2 x24_2).f1), .int .i64 ((rd_T87 l0_2 x24_2).f2)] 87 (0, 0))) ∧ Aside0 (Below w.heap.size w wc))
          case first =>
            have H := HC16.out
            clear HC16
            by_cases c20 : ((rd_T87 l0_2 x24_2).f1) = x15_1
            · rw [if_pos c20] at H
              have c20b0 : (((rd_T87 l0_2 x24_2).f1) == x15_1) = true := beq_iff_eq.mpr c20
              have c20b1 : (((rd_T87 l0_2 x24_2).f1) != x15_1) = false := bne_eq_false_iff_eq.mpr c20
              clear c20
              (first | rw [c20b0] | (simp only [i64_w, i32_w]; rw [c20b0]) | skip)
              have H' := As_ H
              clear H
              have hnb21 := NB321_313.out
              have hnc21 := NB313_321.out
              obtain ⟨hcz22_0, hcz22_1, hcz22_2⟩ := c3_ (w := w17) BK321.out
              obtain ⟨hfz22_0, hfz22_1, hfz22_2⟩ := z3_ BK321.out
              go_wp2
              go_meet
              case rel => exact ⟨_, (true), (by first | rfl | (simp; done) | (simp [*]; done)), H', ⟨by have := HK1.out; have := HK2.out; first | omega | exact Nat.le_refl _⟩, ⟨by (with_reducible repeat (first | apply Kd.S_alloc | apply Kd.S_drewN | apply Kd.S_drew)); exact Kd.S_mono (Kd.S_far (p := ⟨gb321, 2, none⟩) (Kd.S_far (p := ⟨gb321, 1, none⟩) (Kd.S_far (p := ⟨gb321, 0, none⟩) (Kd.S_types HO_3.out BK321.out (by decide)) (fun _ hk => hk.2) (.int .i64 ((rd_T87 l0_2 x24_2).f0))) (fun _ hk => hk.2) (.int .i64 ((rd_T87 l0_2 x24_2).f1))) (fun _ hk => hk.2) (.int .i64 ((rd_T87 l0_2 x24_2).f2))) (fun _ hk => trivial)⟩, ⟨by (with_reducible repeat (first | apply Kd.R_alloc | apply Kd.R_drewN | apply Kd.R_drew)); exact Kd.R_mono (Kd.R_far (p := ⟨gb321, 2, none⟩) (Kd.R_far (p := ⟨gb321, 1, none⟩) (Kd.R_far (p := ⟨gb321, 0, none⟩) (Kd.R_types HO_5.out BK321.out (by decide)) (fun _ hk => hk.2) (.int .i64 ((rd_T87 l0_2 x24_2).f0))) (fun _ hk => hk.2) (.int .i64 ((rd_T87 l0_2 x24_2).f1))) (fun _ hk => hk.2) (.int .i64 ((rd_T87 l0_2 x24_2).f2))) (fun _ hk => trivial)⟩, ⟨by (with_reducible repeat (first | refine blk_drewN ?_ _ | refine blk_drew ?_ | refine blk_alloc ?_ _)); refine blk_far ?_ NB313_321.out _; refine blk_far ?_ NB313_321.out _; refine blk_far ?_ NB313_321.out _; (with_reducible repeat (first | refine blk_drewN ?_ _ | refine blk_drew ?_ | refine blk_alloc ?_ _)); exact BK313.out⟩, ⟨by (with_reducible repeat (first | refine blk_drewN ?_ _ | refine blk_drew ?_ | refine blk_alloc ?_ _)); refine blk_put (cs := #[.int .i64 ((rd_T87 l0_2 x24_2).f0), .int .i64 ((rd_T87 l0_2 x24_2).f1), .int .i64 0]) ?_ 2 _ rfl; refine blk_put (cs := #[.int .i64 ((rd_T87 l0_2 x24_2).f0), .int .i64 0, .int .i64 0]) ?_ 1 _ rfl; refine blk_put (cs := #[.int .i64 0, .int .i64 0, .int .i64 0]) ?_ 0 _ rfl; (with_reducible repeat (first | refine blk_drewN ?_ _ | refine blk_drew ?_ | refine blk_alloc ?_ _)); exact BK321.out⟩, ⟨by repeat (first | (with_reducible first | exact HB.out | apply below_alloc | apply pw_below_drewN | apply below_drew1 | refine below_setA ?_ (by assumption)) | exact HB.out)⟩⟩
            · rw [if_neg c20] at H
              have c20b0 : (((rd_T87 l0_2 x24_2).f1) == x15_1) = false := beq_eq_false_iff_ne.mpr c20
              have c20b1 : (((rd_T87 l0_2 x24_2).f1) != x15_1) = true := bne_iff_ne.mpr c20
              (first | rw [c20b0] | (simp only [i64_w, i32_w]; rw [c20b0]) | skip)
              have H' := As_ H
              clear H
              have hnb23 := NB321_313.out
              have hnc23 := NB313_321.out
              obtain ⟨hcz24_0, hcz24_1, hcz24_2⟩ := c3_ (w := w17) BK321.out
              obtain ⟨hfz24_0, hfz24_1, hfz24_2⟩ := z3_ BK321.out
              go_wp2
              go_meet
              case rel => exact ⟨_, (((wrap64 (((rd_T87 l0_2 x24_2).f1) + ((rd_T87 l0_2 x24_2).f2))) == x15_1)), (by first | rfl | (simp; done) | (simp [*]; done)), H', ⟨by have := HK1.out; have := HK2.out; first | omega | exact Nat.le_refl _⟩, ⟨by (with_reducible repeat (first | apply Kd.S_alloc | apply Kd.S_drewN | apply Kd.S_drew)); exact Kd.S_mono (Kd.S_far (p := ⟨gb321, 2, none⟩) (Kd.S_far (p := ⟨gb321, 1, none⟩) (Kd.S_far (p := ⟨gb321, 0, none⟩) (Kd.S_types HO_3.out BK321.out (by decide)) (fun _ hk => hk.2) (.int .i64 ((rd_T87 l0_2 x24_2).f0))) (fun _ hk => hk.2) (.int .i64 ((rd_T87 l0_2 x24_2).f1))) (fun _ hk => hk.2) (.int .i64 ((rd_T87 l0_2 x24_2).f2))) (fun _ hk => trivial)⟩, ⟨by (with_reducible repeat (first | apply Kd.R_alloc | apply Kd.R_drewN | apply Kd.R_drew)); exact Kd.R_mono (Kd.R_far (p := ⟨gb321, 2, none⟩) (Kd.R_far (p := ⟨gb321, 1, none⟩) (Kd.R_far (p := ⟨gb321, 0, none⟩) (Kd.R_types HO_5.out BK321.out (by decide)) (fun _ hk => hk.2) (.int .i64 ((rd_T87 l0_2 x24_2).f0))) (fun _ hk => hk.2) (.int .i64 ((rd_T87 l0_2 x24_2).f1))) (fun _ hk => hk.2) (.int .i64 ((rd_T87 l0_2 x24_2).f2))) (fun _ hk => trivial)⟩, ⟨by (with_reducible repeat (first | refine blk_drewN ?_ _ | refine blk_drew ?_ | refine blk_alloc ?_ _)); refine blk_far ?_ NB313_321.out _; refine blk_far ?_ NB313_321.out _; refine blk_far ?_ NB313_321.out _; (with_reducible repeat (first | refine blk_drewN ?_ _ | refine blk_drew ?_ | refine blk_alloc ?_ _)); exact BK313.out⟩, ⟨by (with_reducible repeat (first | refine blk_drewN ?_ _ | refine blk_drew ?_ | refine blk_alloc ?_ _)); refine blk_put (cs := #[.int .i64 ((rd_T87 l0_2 x24_2).f0), .int .i64 ((rd_T87 l0_2 x24_2).f1), .int .i64 0]) ?_ 2 _ rfl; refine blk_put (cs := #[.int .i64 ((rd_T87 l0_2 x24_2).f0), .int .i64 0, .int .i64 0]) ?_ 1 _ rfl; refine blk_put (cs := #[.int .i64 0, .int .i64 0, .int .i64 0]) ?_ 0 _ rfl; (with_reducible repeat (first | refine blk_drewN ?_ _ | refine blk_drew ?_ | refine blk_alloc ?_ _)); exact BK321.out⟩, ⟨by repeat (first | (with_reducible first | exact HB.out | apply below_alloc | apply pw_below_drewN | apply below_drew1 | refine below_setA ?_ (by assumption)) | exact HB.out)⟩⟩
          case rest =>
            clear HC16
            try clear c1; try clear c2; try clear p2; try clear p3
            try clear q3
            try clear hx3; try clear c6; try clear c6b0; try clear p6; try clear c7; try clear c7b0; try clear c7b1; try clear c8; try clear c8b0; try clear c8b1; try clear c10; try clear c13; try clear c13b0; try clear c14; try clear c14b0; try clear c15; try clear c15b0; try clear c18; try clear c20; try clear c20b0; try clear c20b1; try clear c21; try clear c23; try clear hcz12_0; try clear hcz12_1; try clear hcz12_2; try clear hcz19_0; try clear hcz19_1; try clear hcz19_2; try clear hcz22_0; try clear hcz22_1; try clear hcz22_2; try clear hcz24_0; try clear hcz24_1; try clear hcz24_2; try clear hcz5_0; try clear hcz5_1; try clear hcz5_2; try clear hcz9_0; try clear hcz9_1; try clear hcz9_2; try clear hfz12_0; try clear hfz12_1; try clear hfz12_2; try clear hfz19_0; try clear hfz19_1; try clear hfz19_2; try clear hfz22_0; try clear hfz22_1; try clear hfz22_2; try clear hfz24_0; try clear hfz24_1; try clear hfz24_2; try clear hfz5_0; try clear hfz5_1; try clear hfz5_2; try clear hfz9_0; try clear hfz9_1; try clear hfz9_2; try clear hx320_0; try clear hx320_1; try clear hx320_2; try clear p2; try clear p320; try clear p6
            try clear q320
            obtain ⟨kq, x40_15, rfl, HA, HJ15, HO_3, HO_5, BK313, BK321, HB⟩ := hcut
            rcases kq with _ | kj15
            · exact absurd HA.out (by simp [impl_Cut_linesAcross.j2])
            have H := HA.out
            clear HA
            simp only [impl_Cut_linesAcross.j2] at H
            by_cases c25 : x40_15 = true
            · subst c25
              have H1 : (impl_Cut_linesAcross.l2 kj15 x3_1 x15_1 x5_2 ((rd_T87 l0_2 x24_2).f0) (wrap64 (a0_1 + 1)) x15_1 l0_2 (l0_2.length : Int) x24_2 a0_0 a0_1 l0_2 ((rd_T87 l0_2 x24_2).f0) ((rd_T87 l0_2 x24_2).f1) ((rd_T87 l0_2 x24_2).f2)) = some r := by rw [if_pos rfl] at H; exact H
              clear H
              have H := H1
              clear H1
              have H' := As_ H
              clear H
              have hnb26 := NB321_313.out
              have hnc26 := NB313_321.out
              obtain ⟨hcz27_0, hcz27_1, hcz27_2⟩ := c3_ (w := wc) BK321.out
              obtain ⟨hfz27_0, hfz27_1, hfz27_2⟩ := z3_ BK321.out
              go_wp2
              go_loopg [8] kj15 (fun kq v8 w' => ∃ (x5_4 : List Bool) (x8_4 : Int), v8 = .int .i64 x8_4 ∧ Aside0 (impl_Cut_linesAcross.l2 kq x3_1 x15_1 x5_4 x8_4 (wrap64 (a0_1 + 1)) x15_1 l0_2 (l0_2.length : Int) x24_2 a0_0 a0_1 l0_2 ((rd_T87 l0_2 x24_2).f0) ((rd_T87 l0_2 x24_2).f1) ((rd_T87 l0_2 x24_2).f2) = some r) ∧ Aside0 (kq ≤ kj15) ∧ Aside0 (Kd.S (Kd.slice 3 (Kd.int .i64)) 26 w' w.heap.size (fun _ => True) u3 x3_1) ∧ Aside0 (Kd.R Kd.bool 4 w' w.heap.size (fun _ => True) v318 x5_4) ∧ Aside0 (w'.heap[gb313]? = some (.cells #[.int .i64 a0_0, .int .i64 a0_1, (.slice (some ad320) l0_2.length c0_2)] 31 (0, 0))) ∧ Aside0 (w'.heap[gb321]? = some (.cells #[.int .i64 ((rd_T87 l0_2 x24_2).f0), .int .i64 ((rd_T87 l0_2 x24_2).f1), .int .i64 ((rd_T87 l0_2 x24_2).f2)] 87 (0, 0))) ∧ Aside0 (Below w.heap.size w w'))
              case atStart => exact ⟨(x5_2), (((rd_T87 l0_2 x24_2).f0)), (by first | rfl | (simp; done) | (simp [*]; done)), H', ⟨Nat.le_refl _⟩, ⟨by (with_reducible repeat (first | apply Kd.S_alloc | apply Kd.S_drewN | apply Kd.S_drew)); exact HO_3.out⟩, ⟨by (with_reducible repeat (first | apply Kd.R_alloc | apply Kd.R_drewN | apply Kd.R_drew)); exact HO_5.out⟩, ⟨by (with_reducible repeat (first | refine blk_drewN ?_ _ | refine blk_drew ?_ | refine blk_alloc ?_ _)); exact BK313.out⟩, ⟨by (with_reducible repeat (first | refine blk_drewN ?_ _ | refine blk_drew ?_ | refine blk_alloc ?_ _)); exact BK321.out⟩, ⟨by repeat (first | (with_reducible first | exact HB.out | apply below_alloc | apply pw_below_drewN | apply below_drew1 | refine below_setA ?_ (by assumption)) | exact HB.out)⟩⟩
              case round =>
                clear H'
                try clear c1; try clear c2; try clear p2; try clear p3
                try clear q3
                try clear hx3; try clear c6; try clear c6b0; try clear p6; try clear c7; try clear c7b0; try clear c7b1; try clear c8; try clear c8b0; try clear c8b1; try clear c10; try clear c13; try clear c13b0; try clear c14; try clear c14b0; try clear c15; try clear c15b0; try clear c18; try clear c20; try clear c20b0; try clear c20b1; try clear c21; try clear c23; try clear c25; try clear c26; try clear hcz12_0; try clear hcz12_1; try clear hcz12_2; try clear hcz19_0; try clear hcz19_1; try clear hcz19_2; try clear hcz22_0; try clear hcz22_1; try clear hcz22_2; try clear hcz24_0; try clear hcz24_1; try clear hcz24_2; try clear hcz27_0; try clear hcz27_1; try clear hcz27_2; try clear hcz5_0; try clear hcz5_1; try clear hcz5_2; try clear hcz9_0; try clear hcz9_1; try clear hcz9_2; try clear hfz12_0; try clear hfz12_1; try clear hfz12_2; try clear hfz19_0; try clear hfz19_1; try clear hfz19_2; try clear hfz22_0; try clear hfz22_1; try clear hfz22_2; try clear hfz24_0; try clear hfz24_1; try clear hfz24_2; try clear hfz27_0; try clear hfz27_1; try clear hfz27_2; try clear hfz5_0; try clear hfz5_1; try clear hfz5_2; try clear hfz9_0; try clear hfz9_1; try clear hfz9_2; try clear hx320_0; try clear hx320_1; try clear hx320_2; try clear p2; try clear p3; try clear p320; try clear p6
                try clear q3
                try clear q320
                obtain ⟨x5_4, x8_4, rfl, HA, HK4, HO_3, HO_5, BK313, BK321, HB⟩ := hrel
                rcases gk with _ | k4
                · exact absurd HA.out (by simp [impl_Cut_linesAcross.l2])
                have H := HA.out
                clear HA
                simp only [impl_Cut_linesAcross.l2] at H
                by_cases c28 : x8_4 < (wrap64 (((rd_T87 l0_2 x24_2).f0) + ((rd_T87 l0_2 x24_2).f2)))
                · rw [if_pos c28] at H
                  have c28b0 : decide (x8_4 < (wrap64 (((rd_T87 l0_2 x24_2).f0) + ((rd_T87 l0_2 x24_2).f2)))) = true := decide_eq_true c28
                  clear c28
                  by_cases c29 : 0 ≤ x8_4
                  case neg => rw [if_neg c29] at H; exact absurd H (by simp)
                  rw [if_pos c29] at H
                  have c29b0 : decide (0 ≤ x8_4) = true := decide_eq_true c29
                  clear c29
                  by_cases c30 : x8_4 < (x5_4.length : Int)
                  case neg => rw [if_neg c30] at H; exact absurd H (by simp)
                  rw [if_pos c30] at H
                  have c30b0 : decide (x8_4 < (x5_4.length : Int)) = true := decide_eq_true c30
                  clear c30
                  obtain ⟨y322, hy322⟩ : ∃ y_ : List Bool, y_ = (x5_4.set (x8_4 : Int).toNat true) := ⟨_, rfl⟩
                  replace H : (impl_Cut_linesAcross.l2 k4 x3_1 x15_1 y322 (wrap64 (x8_4 + 1)) (wrap64 (a0_1 + 1)) x15_1 l0_2 (l0_2.length : Int) x24_2 a0_0 a0_1 l0_2 ((rd_T87 l0_2 x24_2).f0) ((rd_T87 l0_2 x24_2).f1) ((rd_T87 l0_2 x24_2).f2)) = some r := by first | (rw [hy322]; with_reducible exact H) | (have H2_ := (Option.bind_some _ _).symm.trans H; rw [hy322]; with_reducible exact H2_) | (have H2_ := (Option.bind_some _ _).symm.trans H; with_reducible exact H2_) | with_reducible exact H | (rw [hy322]; exact H) | exact H
                  have Ny322 := As_ hy322
                  clear hy322
                  have H' := As_ H
                  clear H
                  have hnb32 := NB321_313.out
                  have hnc32 := NB313_321.out
                  obtain ⟨hcz33_0, hcz33_1, hcz33_2⟩ := c3_ (w := wr) BK321.out
                  obtain ⟨hfz33_0, hfz33_1, hfz33_2⟩ := z3_ BK321.out
                  have p31 : 0 ≤ (x8_4 : Int) := of_decide_eq_true (by first | (with_reducible assumption) | assumption)
                  have q31 : (x8_4 : Int) < ((x5_4.length : Int) : Int) := of_decide_eq_true (by first | (with_reducible assumption) | assumption)
                  obtain ⟨go31, co31, eo31, gb31, gl31, cl31, HG31⟩ := Kd.R_form HO_5.out (by omega)
                  (first | cases eo31 | (injection eo31 with ea_ en_ ec_; (first | subst ea_ | (injection ea_ with ea_; subst ea_)); subst ec_; clear en_))
                  have GB31 := As_ gb31
                  have GG31 := As_ HG31
                  clear gb31 gl31 HG31
                  obtain ⟨hx31_0, hf31_0⟩ := Kd.R_celln false HO_5.out (x8_4 : Int) p31 q31
                  replace p31 := eq_true p31
                  replace q31 := eq_true q31
                  have HP34 := Kd.R_putg HO_5.out (x8_4 : Int) true
                  go_wp2_with (first | ((with_reducible refine gate_store (t := 4) (p := 54) rfl ?_); refine store_event (t := 4) (p := 54) (v := ?vo_w35) (w1 := (wr.setCell ⟨go31, (x8_4 : Int).toNat, none⟩ (.bool true))) ?hg ?ho ?hn ?hr ?_; (case ho => rfl); (case hg => rfl); (case hn => rfl); (case hr => first | (go_simp; done) | (go_simp; rfl)); intro w35 hw; have hg : wr.grownBy w35 (some go31) := (by rw [hw]; exact HP34.2); have hp_ : Kd.R Kd.bool 4 w35 w.heap.size (fun _ => True) (.slice (some ⟨go31, 0, none⟩) x5_4.length co31) y322 := (by rw [hw, Ny322.out]; exact HP34.1); clear HP34; replace HO_3 := As_ (Kd.S_over' (v := (.slice (some ⟨go31, 0, none⟩) x5_4.length co31)) (by (with_reducible repeat (first | apply Kd.S_alloc | apply Kd.S_drewN | apply Kd.S_drew)); exact HO_3.out) (Kd.R_typed HO_5.out) (by decide) hg); replace BK313 := As_ (blk_grown (g := gb313) (o := .cells #[.int .i64 a0_0, .int .i64 a0_1, .slice (some ad320) l0_2.length c0_2] 31 (0, 0)) BK313.out hg (Kd.R_ne HO_5.out BK313.out (by decide))); replace BK321 := As_ (blk_grown (g := gb321) (o := .cells #[.int .i64 ((rd_T87 l0_2 x24_2).f0), .int .i64 ((rd_T87 l0_2 x24_2).f1), .int .i64 ((rd_T87 l0_2 x24_2).f2)] 87 (0, 0)) BK321.out hg (Kd.R_ne HO_5.out BK321.out (by decide))); replace HO_5 := As_ (hp_); replace HB := As_ ((by rw [hw]; exact below_set (HB.out) GB31.out : Below w.heap.size w w35)); clear hg hw hp_))
                  go_roundg k4
                  case measure => have := HK1.out; have := HK2.out; have := HJ15.out; have := HK4.out; omega
                  case rel => exact ⟨(y322), (wrap64 (x8_4 + 1)), (by first | rfl | (simp; done) | (simp [*]; done)), H', ⟨by have := HK1.out; have := HK2.out; have := HJ15.out; have := HK4.out; omega⟩, ⟨by (with_reducible repeat (first | apply Kd.S_alloc | apply Kd.S_drewN | apply Kd.S_drew)); exact HO_3.out⟩, ⟨by (with_reducible repeat (first | apply Kd.R_alloc | apply Kd.R_drewN | apply Kd.R_drew)); exact HO_5.out⟩, ⟨by (with_reducible repeat (first | refine blk_drewN ?_ _ | refine blk_drew ?_ | refine blk_alloc ?_ _)); exact BK313.out⟩, ⟨by (with_reducible repeat (first | refine blk_drewN ?_ _ | refine blk_drew ?_ | refine blk_alloc ?_ _)); exact BK321.out⟩, ⟨by repeat (first | (with_reducible first | exact HB.out | apply below_alloc | apply pw_below_drewN | apply below_drew1 | refine below_setA ?_ (by assumption)) | exact HB.out)⟩⟩
                · rw [if_neg c28] at H
                  have c28b0 : decide (x8_4 < (wrap64 (((rd_T87 l0_2 x24_2).f0) + ((rd_T87 l0_2 x24_2).f2)))) = false := decide_eq_false c28
                  clear c28
                  have H' := As_ H
                  clear H
                  have hnb36 := NB321_313.out
                  have hnc36 := NB313_321.out
                  obtain ⟨hcz37_0, hcz37_1, hcz37_2⟩ := c3_ (w := wr) BK321.out
                  obtain ⟨hfz37_0, hfz37_1, hfz37_2⟩ := z3_ BK321.out
                  go_wp2
                  go_roundg k4
                  case measure => have := HK1.out; have := HK2.out; have := HJ15.out; have := HK4.out; omega
                  case rel => exact ⟨(x5_4), (wrap64 (x24_2 + 1)), (by first | rfl | (simp; done) | (simp [*]; done)), H', ⟨by have := HK1.out; have := HK2.out; have := HJ15.out; have := HK4.out; omega⟩, ⟨by (with_reducible repeat (first | apply Kd.S_alloc | apply Kd.S_drewN | apply Kd.S_drew)); exact HO_3.out⟩, ⟨by (with_reducible repeat (first | apply Kd.R_alloc | apply Kd.R_drewN | apply Kd.R_drew)); exact HO_5.out⟩, ⟨by (with_reducible repeat (first | refine blk_drewN ?_ _ | refine blk_drew ?_ | refine blk_alloc ?_ _)); exact BK313.out⟩, ⟨by repeat (first | (with_reducible first | exact HB.out | apply below_alloc | apply pw_below_drewN | apply below_drew1 | refine below_setA ?_ (by assumption)) | exact HB.out)⟩⟩
            · replace c25 := Bool.eq_false_iff.mpr c25
              subst c25
              have H1 : (impl_Cut_linesAcross.l1 kj15 x3_1 x15_1 x5_2 (wrap64 (a0_1 + 1)) x15_1 l0_2 (l0_2.length : Int) (wrap64 (x24_2 + 1)) a0_0 a0_1 l0_2) = some r := by rw [if_neg (show ¬ (false = true) by decide)] at H; exact H
              clear H
              have H := H1
              clear H1
              have H' := As_ H
              clear H
              go_wp2
              go_roundg kj15
              case measure => have := HK1.out; have := HK2.out; have := HJ15.out; omega
              case rel => exact ⟨(x5_2), (wrap64 (x24_2 + 1)), (by first | rfl | (simp; done) | (simp [*]; done)), H', ⟨by have := HK1.out; have := HK2.out; have := HJ15.out; omega⟩, ⟨by (with_reducible repeat (first | apply Kd.S_alloc | apply Kd.S_drewN | apply Kd.S_drew)); exact HO_3.out⟩, ⟨by (with_reducible repeat (first | apply Kd.R_alloc | apply Kd.R_drewN | apply Kd.R_drew)); exact HO_5.out⟩, ⟨by (with_reducible repeat (first | refine blk_drewN ?_ _ | refine blk_drew ?_ | refine blk_alloc ?_ _)); exact BK313.out⟩, ⟨by repeat (first | (with_reducible first | exact HB.out | apply below_alloc | apply pw_below_drewN | apply below_drew1 | refine below_setA ?_ (by assumption)) | exact HB.out)⟩⟩
        · rw [if_neg c13] at H
          have c13b0 : decide (x24_2 < (l0_2.length : Int)) = false := decide_eq_false c13
          clear c13
          have H' := As_ H
          clear H
          obtain ⟨Ao38, co38, eo38⟩ := Kd.R_slice HO_5.out
          subst eo38
          go_wp2
          go_loopg [3, 58] k2 (fun kq v3 v58 w' => ∃ (x3_3 : List (List Int)) (x58_3 : Int), v58 = .int .i64 x58_3 ∧ Aside0 (impl_Cut_linesAcross.l3 kq x3_3 x15_1 x5_2 (wrap64 (a0_1 + 1)) x15_1 x5_2 (x5_2.length : Int) x58_3 a0_0 a0_1 l0_2 = some r) ∧ Aside0 (kq ≤ k2) ∧ Aside0 (Kd.S (Kd.slice 3 (Kd.int .i64)) 26 w' w.heap.size (fun _ => True) v3 x3_3) ∧ Aside0 (Kd.R Kd.bool 4 w' w.heap.size (fun _ => True) (.slice Ao38 x5_2.length co38) x5_2) ∧ Aside0 (Kd.R Kd.bool 4 w' w.heap.size (fun _ => True) (.slice Ao38 x5_2.length co38) x5_2) ∧ Aside0 (w'.heap[gb313]? = some (.cells #[.int .i64 a0_0, .int .i64 a0_1, (.slice A0_2 l0_2.length c0_2)] 31 (0, 0))) ∧ Aside0 (Below w.heap.size w w'))
          case atStart => exact ⟨(x3_1), (0), (by first | rfl | (simp; done) | (simp [*]; done)), H', ⟨Nat.le_refl _⟩, ⟨by (with_reducible repeat (first | apply Kd.S_alloc | apply Kd.S_drewN | apply Kd.S_drew)); exact HO_3.out⟩, ⟨by (with_reducible repeat (first | apply Kd.R_alloc | apply Kd.R_drewN | apply Kd.R_drew)); exact HO_5.out⟩, ⟨by (with_reducible repeat (first | apply Kd.R_alloc | apply Kd.R_drewN | apply Kd.R_drew)); exact HO_5.out⟩, ⟨by (with_reducible repeat (first | refine blk_drewN ?_ _ | refine blk_drew ?_ | refine blk_alloc ?_ _)); exact BK313.out⟩, ⟨by repeat (first | (with_reducible first | exact HB.out | apply below_alloc | apply pw_below_drewN | apply below_drew1 | refine below_set ?_ GE313.out) | exact HB.out)⟩⟩
          case round =>
            clear H'
            try clear c1; try clear c2; try clear p2; try clear c3; try clear p3
            try clear q3
            try clear hx3; try clear hf3; try clear c6; try clear c6b0; try clear p6; try clear c7; try clear c7b0; try clear c7b1; try clear c8; try clear c8b0; try clear c8b1; try clear c10; try clear c13; try clear c13b0; try clear c14; try clear c14b0; try clear c15; try clear c15b0; try clear c18; try clear c20; try clear c20b0; try clear c20b1; try clear c21; try clear c23; try clear c25; try clear c26; try clear c28; try clear c28b0; try clear c29; try clear c29b0; try clear c30; try clear c30b0; try clear p31
            try clear q31
            try clear hx31; try clear hf31; try clear c32; try clear p32
            try clear q32
            try clear hx32; try clear c36; try clear hcz12_0; try clear hcz12_1; try clear hcz12_2; try clear hcz19_0; try clear hcz19_1; try clear hcz19_2; try clear hcz22_0; try clear hcz22_1; try clear hcz22_2; try clear hcz24_0; try clear hcz24_1; try clear hcz24_2; try clear hcz27_0; try clear hcz27_1; try clear hcz27_2; try clear hcz33_0; try clear hcz33_1; try clear hcz33_2; try clear hcz37_0; try clear hcz37_1; try clear hcz37_2; try clear hcz5_0; try clear hcz5_1; try clear hcz5_2; try clear hcz9_0; try clear hcz9_1; try clear hcz9_2; try clear hfz12_0; try clear hfz12_1; try clear hfz12_2; try clear hfz19_0; try clear hfz19_1; try clear hfz19_2; try clear hfz22_0; try clear hfz22_1; try clear hfz22_2; try clear hfz24_0; try clear hfz24_1; try clear hfz24_2; try clear hfz27_0; try clear hfz27_1; try clear hfz27_2; try clear hfz33_0; try clear hfz33_1; try clear hfz33_2; try clear hfz37_0; try clear hfz37_1; try clear hfz37_2; try clear hfz5_0; try clear hfz5_1; try clear hfz5_2; try clear hfz9_0; try clear hfz9_1; try clear hfz9_2; try clear hx31_0; try clear hx320_0; try clear hx320_1; try clear hx320_2; try clear p2; try clear p3; try clear p31; try clear p320; try clear p6
            try clear q3
            try clear q31
            try clear q320
            obtain ⟨x3_3, x58_3, rfl, HA, HK3, HO_3, HO_5, HO_56, BK313, HB⟩ := hrel
            rcases gk with _ | k3
            · exact absurd HA.out (by simp [impl_Cut_linesAcross.l3])
            have H := HA.out
            clear HA
            simp only [impl_Cut_linesAcross.l3] at H
            by_cases c39 : x58_3 < (x5_2.length : Int)
            · rw [if_pos c39] at H
              have c39b0 : decide (x58_3 < (x5_2.length : Int)) = true := decide_eq_true c39
              clear c39
              by_cases c40 : 0 ≤ x58_3
              case neg => rw [if_neg c40] at H; exact absurd H (by simp)
              rw [if_pos c40] at H
              have c40b0 : decide (0 ≤ x58_3) = true := decide_eq_true c40
              clear c40
              by_cases c41 : x58_3 < (x5_2.length : Int)
              case neg => rw [if_neg c41] at H; exact absurd H (by simp)
              rw [if_pos c41] at H
              have c41b0 : decide (x58_3 < (x5_2.length : Int)) = true := decide_eq_true c41
              clear c41
              obtain ⟨bq42, hbq42⟩ : ∃ b_ : Bool, b_ = (rdOf false x5_2 x58_3) := ⟨_, rfl⟩
              replace H : (if bq42 = true then (if x58_3 > 0 then (if 0 ≤ (wrap64 (x58_3 - 1)) then (if (wrap64 (x58_3 - 1)) < (x5_2.length : Int) then (if rdOf false x5_2 (wrap64 (x58_3 - 1)) = true then (if 0 ≤ (wrap64 ((x3_3.length : Int) - 1)) then (if (wrap64 ((x3_3.length : Int) - 1)) < (x3_3.length : Int) then (if 2 < ((rd_L5 x3_3 (wrap64 ((x3_3.length : Int) - 1))).length : Int) then (impl_Cut_linesAcross.l3 k3 (x3_3.set ((wrap64 ((x3_3.length : Int) - 1)) : Int).toNat ((rd_L5 x3_3 (wrap64 ((x3_3.length : Int) - 1))).set (2 : Int).toNat (wrap64 (x58_3 + 1)))) x15_1 x5_2 (wrap64 (a0_1 + 1)) x15_1 x5_2 (x5_2.length : Int) (wrap64 (x58_3 + 1)) a0_0 a0_1 l0_2) else (none)) else (none)) else (none)) else (if x3_3.length < 5864062014805 then (impl_Cut_linesAcross.l3 k3 (x3_3 ++ [(([x15_1, x58_3, wrap64 (x58_3 + 1)] : List Int))]) x15_1 x5_2 (wrap64 (a0_1 + 1)) x15_1 x5_2 (x5_2.length : Int) (wrap64 (x58_3 + 1)) a0_0 a0_1 l0_2) else (none))) else (none)) else (none)) else (if x3_3.length < 5864062014805 then (impl_Cut_linesAcross.l3 k3 (x3_3 ++ [(([x15_1, x58_3, wrap64 (x58_3 + 1)] : List Int))]) x15_1 x5_2 (wrap64 (a0_1 + 1)) x15_1 x5_2 (x5_2.length : Int) (wrap64 (x58_3 + 1)) a0_0 a0_1 l0_2) else (none))) else (impl_Cut_linesAcross.l3 k3 x3_3 x15_1 x5_2 (wrap64 (a0_1 + 1)) x15_1 x5_2 (x5_2.length : Int) (wrap64 (x58_3 + 1)) a0_0 a0_1 l0_2)) = some r := by rw [← hbq42] at H; exact H
              have Nbq42 := As_ hbq42
              clear hbq42
              by_cases c43 : bq42 = true
              · subst c43
                have H1 : (if x58_3 > 0 then (if 0 ≤ (wrap64 (x58_3 - 1)) then (if (wrap64 (x58_3 - 1)) < (x5_2.length : Int) then (if rdOf false x5_2 (wrap64 (x58_3 - 1)) = true then (if 0 ≤ (wrap64 ((x3_3.length : Int) - 1)) then (if (wrap64 ((x3_3.length : Int) - 1)) < (x3_3.length : Int) then (if 2 < ((rd_L5 x3_3 (wrap64 ((x3_3.length : Int) - 1))).length : Int) then (impl_Cut_linesAcross.l3 k3 (x3_3.set ((wrap64 ((x3_3.length : Int) - 1)) : Int).toNat ((rd_L5 x3_3 (wrap64 ((x3_3.length : Int) - 1))).set (2 : Int).toNat (wrap64 (x58_3 + 1)))) x15_1 x5_2 (wrap64 (a0_1 + 1)) x15_1 x5_2 (x5_2.length : Int) (wrap64 (x58_3 + 1)) a0_0 a0_1 l0_2) else (none)) else (none)) else (none)) else (if x3_3.length < 5864062014805 then (impl_Cut_linesAcross.l3 k3 (x3_3 ++ [(([x15_1, x58_3, wrap64 (x58_3 + 1)] : List Int))]) x15_1 x5_2 (wrap64 (a0_1 + 1)) x15_1 x5_2 (x5_2.length : Int) (wrap64 (x58_3 + 1)) a0_0 a0_1 l0_2) else (none))) else (none)) else (none)) else (if x3_3.length < 5864062014805 then (impl_Cut_linesAcross.l3 k3 (x3_3 ++ [(([x15_1, x58_3, wrap64 (x58_3 + 1)] : List Int))]) x15_1 x5_2 (wrap64 (a0_1 + 1)) x15_1 x5_2 (x5_2.length : Int) (wrap64 (x58_3 + 1)) a0_0 a0_1 l0_2) else (none))) = some r := by rw [if_pos rfl] at H; exact H
                clear H
                have H := H1
                clear H1
                by_cases c44 : x58_3 > 0
                · rw [if_pos c44] at H
                  have c44b0 : decide (0 < x58_3) = true := decide_eq_true c44
                  clear c44
                  obtain ⟨ji45, hji45⟩ : ∃ j_ : Int, (wrap64 (x58_3 - 1)) = j_ := ⟨_, rfl⟩
                  replace H : (if 0 ≤ (ji45) then (if (ji45) < (x5_2.length : Int) then (if rdOf false x5_2 (ji45) = true then (if 0 ≤ (wrap64 ((x3_3.length : Int) - 1)) then (if (wrap64 ((x3_3.length : Int) - 1)) < (x3_3.length : Int) then (if 2 < ((rd_L5 x3_3 (wrap64 ((x3_3.length : Int) - 1))).length : Int) then (impl_Cut_linesAcross.l3 k3 (x3_3.set ((wrap64 ((x3_3.length : Int) - 1)) : Int).toNat ((rd_L5 x3_3 (wrap64 ((x3_3.length : Int) - 1))).set (2 : Int).toNat (wrap64 (x58_3 + 1)))) x15_1 x5_2 (wrap64 (a0_1 + 1)) x15_1 x5_2 (x5_2.length : Int) (wrap64 (x58_3 + 1)) a0_0 a0_1 l0_2) else (none)) else (none)) else (none)) else (if x3_3.length < 5864062014805 then (impl_Cut_linesAcross.l3 k3 (x3_3 ++ [(([x15_1, x58_3, wrap64 (x58_3 + 1)] : List Int))]) x15_1 x5_2 (wrap64 (a0_1 + 1)) x15_1 x5_2 (x5_2.length : Int) (wrap64 (x58_3 + 1)) a0_0 a0_1 l0_2) else (none))) else (none)) else (none)) = some r := by first | (rw [hji45] at H; exact H) | (simp only [hji45] at H ⊢; exact H)
                  have hji45w : (IntKind.i64.wrap (x58_3 - 1)) = ji45 := (i64_w _).trans hji45
                  by_cases c46 : 0 ≤ (ji45)
                  case neg => rw [if_neg c46] at H; exact absurd H (by simp)
                  rw [if_pos c46] at H
                  have c46b0 : decide (0 ≤ (ji45)) = true := decide_eq_true c46
                  clear c46
                  by_cases c47 : (ji45) < (x5_2.length : Int)
                  case neg => rw [if_neg c47] at H; exact absurd H (by simp)
                  rw [if_pos c47] at H
                  have c47b0 : decide ((ji45) < (x5_2.length : Int)) = true := decide_eq_true c47
                  clear c47
                  obtain ⟨bq48, hbq48⟩ : ∃ b_ : Bool, b_ = (rdOf false x5_2 (ji45)) := ⟨_, rfl⟩
                  replace H : (if bq48 = true then (if 0 ≤ (wrap64 ((x3_3.length : Int) - 1)) then (if (wrap64 ((x3_3.length : Int) - 1)) < (x3_3.length : Int) then (if 2 < ((rd_L5 x3_3 (wrap64 ((x3_3.length : Int) - 1))).length : Int) then (impl_Cut_linesAcross.l3 k3 (x3_3.set ((wrap64 ((x3_3.length : Int) - 1)) : Int).toNat ((rd_L5 x3_3 (wrap64 ((x3_3.length : Int) - 1))).set (2 : Int).toNat (wrap64 (x58_3 + 1)))) x15_1 x5_2 (wrap64 (a0_1 + 1)) x15_1 x5_2 (x5_2.length : Int) (wrap64 (x58_3 + 1)) a0_0 a0_1 l0_2) else (none)) else (none)) else (none)) else (if x3_3.length < 5864062014805 then (impl_Cut_linesAcross.l3 k3 (x3_3 ++ [(([x15_1, x58_3, wrap64 (x58_3 + 1)] : List Int))]) x15_1 x5_2 (wrap64 (a0_1 + 1)) x15_1 x5_2 (x5_2.length : Int) (wrap64 (x58_3 + 1)) a0_0 a0_1 l0_2) else (none))) = some r := by rw [← hbq48] at H; exact H
                  have Nbq48 := As_ hbq48
                  clear hbq48
                  by_cases c49 : bq48 = true
                  · subst c49
                    have H1 : (if 0 ≤ (wrap64 ((x3_3.length : Int) - 1)) then (if (wrap64 ((x3_3.length : Int) - 1)) < (x3_3.length : Int) then (if 2 < ((rd_L5 x3_3 (wrap64 ((x3_3.length : Int) - 1))).length : Int) then (impl_Cut_linesAcross.l3 k3 (x3_3.set ((wrap64 ((x3_3.length : Int) - 1)) : Int).toNat ((rd_L5 x3_3 (wrap64 ((x3_3.length : Int) - 1))).set (2 : Int).toNat (wrap64 (x58_3 + 1)))) x15_1 x5_2 (wrap64 (a0_1 + 1)) x15_1 x5_2 (x5_2.length : Int) (wrap64 (x58_3 + 1)) a0_0 a0_1 l0_2) else (none)) else (none)) else (none)) = some r := by rw [if_pos rfl] at H; exact H
                    clear H
                    have H := H1
                    clear H1
                    obtain ⟨ji50, hji50⟩ : ∃ j_ : Int, (wrap64 ((x3_3.length : Int) - 1)) = j_ := ⟨_, rfl⟩
                    replace H : (if 0 ≤ (ji50) then (if (ji50) < (x3_3.length : Int) then (if 2 < ((rd_L5 x3_3 (ji50)).length : Int) then (impl_Cut_linesAcross.l3 k3 (x3_3.set ((ji50) : Int).toNat ((rd_L5 x3_3 (ji50)).set (2 : Int).toNat (wrap64 (x58_3 + 1)))) x15_1 x5_2 (wrap64 (a0_1 + 1)) x15_1 x5_2 (x5_2.length : Int) (wrap64 (x58_3 + 1)) a0_0 a0_1 l0_2) else (none)) else (none)) else (none)) = some r := by first | (rw [hji50] at H; exact H) | (simp only [hji50] at H ⊢; exact H)
                    have hji50w : (IntKind.i64.wrap ((x3_3.length : Int) - 1)) = ji50 := (i64_w _).trans hji50
                    by_cases c51 : 0 ≤ (ji50)
                    case neg => rw [if_neg c51] at H; exact absurd H (by simp)
                    rw [if_pos c51] at H
                    have c51b0 : decide (0 ≤ (ji50)) = true := decide_eq_true c51
                    clear c51
                    by_cases c52 : (ji50) < (x3_3.length : Int)
                    case neg => rw [if_neg c52] at H; exact absurd H (by simp)
                    rw [if_pos c52] at H
                    have c52b0 : decide ((ji50) < (x3_3.length : Int)) = true := decide_eq_true c52
                    clear c52
                    by_cases c53 : 2 < ((rd_L5 x3_3 (ji50)).length : Int)
                    case neg => rw [if_neg c53] at H; exact absurd H (by simp)
                    rw [if_pos c53] at H
                    have c53b0 : decide (2 < ((rd_L5 x3_3 (ji50)).length : Int)) = true := decide_eq_true c53
                    have c53b1 : decide (2 < (rd_L5 x3_3 (ji50)).length) = true := decide_eq_true (by omega)
                    clear c53
                    obtain ⟨y326, hy326⟩ : ∃ y_ : List Int, y_ = ((rd_L5 x3_3 (ji50)).set (2 : Int).toNat (wrap64 (x58_3 + 1))) := ⟨_, rfl⟩
                    replace H : (impl_Cut_linesAcross.l3 k3 (x3_3.set ((ji50) : Int).toNat y326) x15_1 x5_2 (wrap64 (a0_1 + 1)) x15_1 x5_2 (x5_2.length : Int) (wrap64 (x58_3 + 1)) a0_0 a0_1 l0_2) = some r := by first | (rw [hy326]; with_reducible exact H) | (have H2_ := (Option.bind_some _ _).symm.trans H; rw [hy326]; with_reducible exact H2_) | (have H2_ := (Option.bind_some _ _).symm.trans H; with_reducible exact H2_) | with_reducible exact H | (rw [hy326]; exact H) | exact H
                    have Ny326 := As_ hy326
                    clear hy326
                    obtain ⟨y328, hy328⟩ : ∃ y_ : List (List Int), y_ = (x3_3.set ((ji50) : Int).toNat y326) := ⟨_, rfl⟩
                    replace H : (impl_Cut_linesAcross.l3 k3 y328 x15_1 x5_2 (wrap64 (a0_1 + 1)) x15_1 x5_2 (x5_2.length : Int) (wrap64 (x58_3 + 1)) a0_0 a0_1 l0_2) = some r := by first | (rw [hy328]; with_reducible exact H) | (have H2_ := (Option.bind_some _ _).symm.trans H; rw [hy328]; with_reducible exact H2_) | (have H2_ := (Option.bind_some _ _).symm.trans H; with_reducible exact H2_) | with_reducible exact H | (rw [hy328]; exact H) | exact H
                    have Ny328 := As_ hy328
                    clear hy328
                    have H' := As_ H
                    clear H
                    have p323 : 0 ≤ (x58_3 : Int) := of_decide_eq_true (by first | (with_reducible assumption) | assumption)
                    have q323 : x58_3 < (x5_2.length : Int) := of_decide_eq_true (by first | (with_reducible assumption) | assumption)
                    obtain ⟨ad323, e323, hx323_0⟩ := Kd.at_bool (Kd.R_reads' HO_56.out).2.2 x58_3 p323 q323
                    (try rw [← Nbq42.out] at hx323_0)
                    (try rw [← Nbq48.out] at hx323_0)
                    cases e323
                    replace p323 := eq_true p323
                    replace q323 := eq_true q323
                    have p324 : 0 ≤ ((ji45) : Int) := of_decide_eq_true (by first | (with_reducible assumption) | assumption)
                    have q324 : (ji45) < (x5_2.length : Int) := of_decide_eq_true (by first | (with_reducible assumption) | assumption)
                    obtain ⟨ad324, e324, hx324_0⟩ := Kd.at_bool (Kd.R_reads' HO_5.out).2.2 (ji45) p324 q324
                    (try rw [← Nbq42.out] at hx324_0)
                    (try rw [← Nbq48.out] at hx324_0)
                    obtain rfl : ad323 = ad324 := (by injection e324)
                    replace p324 := eq_true p324
                    replace q324 := eq_true q324
                    obtain ⟨Ao55, co55, eo55⟩ := Kd.S_slice HO_3.out
                    subst eo55
                    have p325 : 0 ≤ ((ji50) : Int) := of_decide_eq_true (by first | (with_reducible assumption) | assumption)
                    have q325 : (ji50) < (x3_3.length : Int) := of_decide_eq_true (by first | (with_reducible assumption) | assumption)
                    obtain ⟨ad325, A325_0, c325_0, e325, hx325_0, hl325_0, hi325_0⟩ := at_L5 (Kd.S_reads' HO_3.out).2.2 (ji50) p325 q325
                    cases e325
                    obtain ⟨ce325, hce325, hMe325, hcc325⟩ := Kd.S_get HO_3.out [] (ji50) p325 (by first | exact q325 | exact of_decide_eq_true (by first | (with_reducible assumption) | assumption) | (have e_ := (Kd.S_reads' HO_3.out).1; omega))
                    obtain ⟨ve325_0, rfl, ge325_0⟩ := hMe325
                    have hv325_0 := hcc325 0 _ rfl
                    rw [Nat.add_zero, show ((Kd.slice 3 (Kd.int .i64))).sz = 1 from rfl, Nat.mul_one] at hv325_0
                    replace hv325_0 := Option.some.inj (hv325_0.symm.trans hx325_0)
                    rw [hv325_0] at ge325_0
                    have HL325_0 := As_ (show Kd.R (Kd.int .i64) 3 _ _ _ _ (rd_L5 x3_3 (ji50)) from ge325_0)
                    clear hv325_0 ge325_0
                    have HX325_0 := As_ hx325_0
                    clear hcc325 hce325
                    have HR325_0 := As_ hi325_0
                    have HC325_0 := As_ hl325_0
                    clear hi325_0 hl325_0
                    replace p325 := eq_true p325
                    replace q325 := eq_true q325
                    have p54 : 0 ≤ (2 : Int) := (by omega)
                    have q54 : (2 : Int) < (((rd_L5 x3_3 (ji50)).length : Int) : Int) := of_decide_eq_true (by first | (with_reducible assumption) | assumption)
                    have qi54 : (2 < (rd_L5 x3_3 (ji50)).length) = True := eq_true (by omega)
                    obtain ⟨go54, co54, eo54, gb54, gl54, cl54, HG54⟩ := Kd.R_form HL325_0.out (by omega)
                    (first | cases eo54 | (injection eo54 with ea_ en_ ec_; (first | subst ea_ | (injection ea_ with ea_; subst ea_)); subst ec_; clear en_))
                    have GB54 := As_ gb54
                    have GG54 := As_ HG54
                    clear gb54 gl54 HG54
                    obtain ⟨hx54_0, hf54_0⟩ := Kd.R_celln 0 HL325_0.out (2 : Int) p54 q54
                    (try rw [show ((2 : Int)).toNat = 2 from rfl] at hx54_0)
                    (try simp only [Nat.reduceMul, Nat.zero_mul, Nat.zero_add, Nat.reduceAdd] at hx54_0)
                    (try rw [show ((2 : Int)).toNat = 2 from rfl] at hf54_0)
                    (try simp only [Nat.reduceMul, Nat.zero_mul, Nat.zero_add, Nat.reduceAdd] at hf54_0)
                    replace p54 := eq_true p54
                    replace q54 := eq_true q54
                    have hq56 : ((ji50) : Int) < (x3_3.length : Int) := (by have h_ : ((ji50) : Int) < ((x3_3.length : Int) : Int) := of_decide_eq_true (by first | (with_reducible assumption) | assumption); first | exact h_ | (have e_ := (Kd.S_reads' HO_3.out).1; omega) | simpa only [List.length_set, List.length_set] using h_)
                    obtain ⟨oki56, ce56, hcl56, hM56, hcc56, hok56, hbk56⟩ := Kd.S_borrow HO_3.out [] ((ji50) : Int) (of_decide_eq_true (by first | (with_reducible assumption) | assumption)) hq56
                    obtain ⟨ve56_0, rfl, ge56_0⟩ := hM56
                    have hv56 := hcc56 0 _ rfl
                    rw [Nat.add_zero, show ((Kd.slice 3 (Kd.int .i64))).sz = 1 from rfl, Nat.mul_one] at hv56
                    replace hv56 := Option.some.inj (hv56.symm.trans HX325_0.out)
                    subst hv56
                    clear hcc56 hcl56
                    replace ge56_0 := (show Kd.R (Kd.int .i64) 3 _ _ _ _ (rd_L5 x3_3 (ji50)) from ge56_0)
                    have HP56 := Kd.R_putg ge56_0 (2 : Int) (wrap64 (x58_3 + 1))
                    go_wp2_with (first | ((with_reducible refine gate_store (t := 3) (p := 92) rfl ?_); refine store_event (t := 3) (p := 92) (v := ?vo_w57) (w1 := (wr.setCell ⟨go54, 2, none⟩ (.int .i64 (wrap64 (x58_3 + 1))))) ?hg ?ho ?hn ?hr ?_; (case ho => rfl); (case hg => rfl); (case hn => rfl); (case hr => first | (go_simp; done) | (go_simp; rfl)); intro w57 hw; have hg : wr.grownBy w57 (some go54) := (by rw [hw]; exact HP56.2); have hz_ : Kd.R (Kd.int .i64) 3 w57 w.heap.size oki56 (.slice (some ⟨go54, 0, none⟩) (rd_L5 x3_3 (ji50)).length c325_0) y326 := (by rw [hw, Ny326.out]; exact HP56.1); have hp_ : Kd.S (Kd.slice 3 (Kd.int .i64)) 26 w57 w.heap.size (fun _ => True) (.slice (some ad325) x3_3.length co55) y328 := (by rw [Ny328.out]; exact hbk56 hg (fun k_ e_ => by injection e_ with e_; subst e_; exact ge56_0.1 _ rfl) (Kd.M_row hz_)); have hm_ := Kd.R_mono hz_ hok56; clear HP56 hbk56; have n0_ := As_ (hp_); have n1_ := As_ (Kd.R_over' (v := (.slice (some ⟨go54, 0, none⟩) (rd_L5 x3_3 (ji50)).length c325_0)) (by (with_reducible repeat (first | apply Kd.R_alloc | apply Kd.R_drewN | apply Kd.R_drew)); exact HO_5.out) (Kd.R_typed HL325_0.out) (by decide) hg); have n2_ := As_ (Kd.R_over' (v := (.slice (some ⟨go54, 0, none⟩) (rd_L5 x3_3 (ji50)).length c325_0)) (by (with_reducible repeat (first | apply Kd.R_alloc | apply Kd.R_drewN | apply Kd.R_drew)); exact HO_56.out) (Kd.R_typed HL325_0.out) (by decide) hg); have n3_ := As_ (blk_grown (g := gb313) (o := .cells #[.int .i64 a0_0, .int .i64 a0_1, .slice A0_2 l0_2.length c0_2] 31 (0, 0)) BK313.out hg (Kd.R_ne HL325_0.out BK313.out (by decide))); have n4_ := As_ ((by rw [hw]; exact below_set (HB.out) GB54.out : Below w.heap.size w w57)); have n5_ := As_ (hm_); have n6_ := As_ ((Kd.R_reads' hm_).2.1); clear HO_3; clear HO_5; clear HO_56; clear BK313; clear HB; clear HL325_0; have HO_3 := n0_; have HO_5 := n1_; have HO_56 := n2_; have BK313 := n3_; have HB := n4_; have HL341 := n5_; have HC327 := n6_; clear n0_ n1_ n2_ n3_ n4_ n5_ n6_; clear hg hw hp_ hz_ hm_ hok56))
                    go_roundg k3
                    case measure => have := HK1.out; have := HK2.out; have := HK3.out; omega
                    case rel => exact ⟨(y328), (wrap64 (x58_3 + 1)), (by first | rfl | (simp; done) | (simp [*]; done)), H', ⟨by have := HK1.out; have := HK2.out; have := HK3.out; omega⟩, ⟨by (with_reducible repeat (first | apply Kd.S_alloc | apply Kd.S_drewN | apply Kd.S_drew)); exact HO_3.out⟩, ⟨by (with_reducible repeat (first | apply Kd.R_alloc | apply Kd.R_drewN | apply Kd.R_drew)); exact HO_5.out⟩, ⟨by (with_reducible repeat (first | apply Kd.R_alloc | apply Kd.R_drewN | apply Kd.R_drew)); exact HO_56.out⟩, ⟨by (with_reducible repeat (first | refine blk_drewN ?_ _ | refine blk_drew ?_ | refine blk_alloc ?_ _)); exact BK313.out⟩, ⟨by repeat (first | (with_reducible first | exact HB.out | apply below_alloc | apply pw_below_drewN | apply below_drew1 | refine below_set ?_ GE313.out) | exact HB.out)⟩⟩
                  · replace c49 := Bool.eq_false_iff.mpr c49
                    subst c49
                    have H1 : (if x3_3.length < 5864062014805 then (impl_Cut_linesAcross.l3 k3 (x3_3 ++ [(([x15_1, x58_3, wrap64 (x58_3 + 1)] : List Int))]) x15_1 x5_2 (wrap64 (a0_1 + 1)) x15_1 x5_2 (x5_2.length : Int) (wrap64 (x58_3 + 1)) a0_0 a0_1 l0_2) else (none)) = some r := by rw [if_neg (show ¬ (false = true) by decide)] at H; exact H
                    clear H
                    have H := H1
                    clear H1
                    obtain ⟨y329, hy329⟩ : ∃ y_ : List Int, y_ = (([x15_1, x58_3, wrap64 (x58_3 + 1)] : List Int)) := ⟨_, rfl⟩
                    replace H : (if x3_3.length < 5864062014805 then (impl_Cut_linesAcross.l3 k3 (x3_3 ++ [y329]) x15_1 x5_2 (wrap64 (a0_1 + 1)) x15_1 x5_2 (x5_2.length : Int) (wrap64 (x58_3 + 1)) a0_0 a0_1 l0_2) else (none)) = some r := by first | (rw [hy329]; with_reducible exact H) | (have H2_ := (Option.bind_some _ _).symm.trans H; rw [hy329]; with_reducible exact H2_) | (have H2_ := (Option.bind_some _ _).symm.trans H; with_reducible exact H2_) | with_reducible exact H | (rw [hy329]; exact H) | exact H
                    have Ny329 := As_ hy329
                    clear hy329
                    by_cases c58 : x3_3.length < 5864062014805
                    case neg => rw [if_neg c58] at H; exact absurd H (by simp)
                    rw [if_pos c58] at H
                    have LMc58 := As_ c58
                    clear c58
                    obtain ⟨y332, hy332⟩ : ∃ y_ : List (List Int), y_ = (x3_3 ++ [y329]) := ⟨_, rfl⟩
                    replace H : (impl_Cut_linesAcross.l3 k3 y332 x15_1 x5_2 (wrap64 (a0_1 + 1)) x15_1 x5_2 (x5_2.length : Int) (wrap64 (x58_3 + 1)) a0_0 a0_1 l0_2) = some r := by first | (rw [hy332]; with_reducible exact H) | (have H2_ := (Option.bind_some _ _).symm.trans H; rw [hy332]; with_reducible exact H2_) | (have H2_ := (Option.bind_some _ _).symm.trans H; with_reducible exact H2_) | with_reducible exact H | (rw [hy332]; exact H) | exact H
                    have Ny332 := As_ hy332
                    clear hy332
                    have H' := As_ H
                    clear H
                    have p323 : 0 ≤ (x58_3 : Int) := of_decide_eq_true (by first | (with_reducible assumption) | assumption)
                    have q323 : x58_3 < (x5_2.length : Int) := of_decide_eq_true (by first | (with_reducible assumption) | assumption)
                    obtain ⟨ad323, e323, hx323_0⟩ := Kd.at_bool (Kd.R_reads' HO_56.out).2.2 x58_3 p323 q323
                    (try rw [← Nbq42.out] at hx323_0)
                    (try rw [← Nbq48.out] at hx323_0)
                    cases e323
                    replace p323 := eq_true p323
                    replace q323 := eq_true q323
                    have p324 : 0 ≤ ((ji45) : Int) := of_decide_eq_true (by first | (with_reducible assumption) | assumption)
                    have q324 : (ji45) < (x5_2.length : Int) := of_decide_eq_true (by first | (with_reducible assumption) | assumption)
                    obtain ⟨ad324, e324, hx324_0⟩ := Kd.at_bool (Kd.R_reads' HO_5.out).2.2 (ji45) p324 q324
                    (try rw [← Nbq42.out] at hx324_0)
                    (try rw [← Nbq48.out] at hx324_0)
                    obtain rfl : ad323 = ad324 := (by injection e324)
                    replace p324 := eq_true p324
                    replace q324 := eq_true q324
                    go_wp2_with (first | ((with_reducible refine gate_dst (N := 68) rfl ?_); refine Kd.R_lit (Kd.int .i64) _ 3 ?hg (N := 68) ?hd (xs := ([x15_1, x58_3, wrap64 (x58_3 + 1)] : List Int)) (inner := [.int .i64 x15_1, .int .i64 x58_3, .int .i64 (wrap64 (x58_3 + 1))]) (ok := fun _ => True) (okp := fun _ => True) ?hr ?hp (fun _ hk => hk) trivial (Below.refl _ _) (Nat.le_refl _) (by simp) ?_; (case hd => rfl); (case hg => rfl); (case hr => first | (go_simp; done) | (go_simp; rfl)); (case hp => exact (Reps.one (show Kd.M (Kd.int .i64) _ _ _ x15_1 [.int .i64 x15_1] from rfl) (Reps.one (show Kd.M (Kd.int .i64) _ _ _ x58_3 [.int .i64 x58_3] from rfl) (Reps.one (show Kd.M (Kd.int .i64) _ _ _ (wrap64 (x58_3 + 1)) [.int .i64 (wrap64 (x58_3 + 1))] from rfl) (Reps.none _ _))))); intro v330 w59 ho60 hb hg_ hnew_; clear hg_ hnew_; (first | rw [← Ny329.out] at ho60 | (simp only [Int.reduceToNat] at ho60; rw [← Ny329.out] at ho60)); have HO331 := As_ (Kd.R_lower ho60 (below_size (by repeat (first | (with_reducible first | exact HB.out | apply below_alloc | apply pw_below_drewN | apply below_drew1 | refine below_set ?_ GE313.out) | exact HB.out)))); replace HO_3 := As_ (Kd.S_elder' (by (with_reducible repeat (first | apply Kd.S_alloc | apply Kd.S_drewN | apply Kd.S_drew)); exact HO_3.out) (Kd.R_base ho60) hb); replace HO_5 := As_ (Kd.R_below (by (with_reducible repeat (first | apply Kd.R_alloc | apply Kd.R_drewN | apply Kd.R_drew)); exact HO_5.out) hb); replace HO_56 := As_ (Kd.R_below (by (with_reducible repeat (first | apply Kd.R_alloc | apply Kd.R_drewN | apply Kd.R_drew)); exact HO_56.out) hb); replace BK313 := As_ (blk_b hb BK313.out); replace HB := As_ (below_step (by repeat (first | (with_reducible first | exact HB.out | apply below_alloc | apply pw_below_drewN | apply below_drew1 | refine below_set ?_ GE313.out) | exact HB.out)) hb); clear hb ho60; obtain ⟨Ao62, co62, eo62⟩ := Kd.R_slice HO331.out; subst eo62) | ((with_reducible refine gate_builtin (b := .append) (xs := #[.tmp 63, .tmp 69]) rfl ?_); at_builtin; refine Kd.S_append (Kd.slice 3 (Kd.int .i64)) (w0 := w) w.heap.size rfl (.tmp 63) (.tmp 69) 98 26 (.slice none 0 0) 24 rfl Try.underlying98 info26 rfl (by decide) (by omega) u3 x3_3 y329 [.slice Ao62 y329.length co62] (fun _ => True) (fun k_ => some k_ = (.slice Ao62 y329.length co62 : Value).ownBlock) rfl rfl ?aP (fun k_ hk_ => ((Kd.R_mono (ok' := fun k_ => ((fun _ => True)) k_ ∧ some k_ ≠ (u3 : Value).ownBlock) (Kd.R_apart' (HO331.out) (Kd.S_typed HO_3.out) (by decide)) (fun k_ hk => ⟨trivial, hk.2⟩))).1 k_ hk_.symm) ?aF ?aO ?aB ?aS ?aL ?_; (case aP => exact Kd.M_row (Kd.R_mono (Kd.R_tight rfl (Kd.R_mono (ok' := fun k_ => ((fun _ => True)) k_ ∧ some k_ ≠ (u3 : Value).ownBlock) (Kd.R_apart' (HO331.out) (Kd.S_typed HO_3.out) (by decide)) (fun k_ hk => ⟨trivial, hk.2⟩))) (fun _ h_ => h_))); (case aB => exact (by repeat (first | (with_reducible first | exact HB.out | apply below_alloc | apply pw_below_drewN | apply below_drew1 | refine below_set ?_ GE313.out) | exact HB.out))); (case aF => exact (fun _ _ => trivial)); (case aO => exact (by (with_reducible repeat (first | apply Kd.S_alloc | apply Kd.S_drewN | apply Kd.S_drew)); exact Kd.S_mono HO_3.out (fun k_ hk => ⟨trivial, fun e_ => hk.2 e_⟩))); (case aS => exact (below_size (by repeat (first | (with_reducible first | exact HB.out | apply below_alloc | apply pw_below_drewN | apply below_drew1 | refine below_set ?_ GE313.out) | exact HB.out)))); (case aL => have := LMc58.out; omega); intro v333 w61 ho hb hg hat; rw [← Ny332.out] at ho; have n0_ := As_ (Kd.R_over' (by (with_reducible repeat (first | apply Kd.R_alloc | apply Kd.R_drewN | apply Kd.R_drew)); exact HO_5.out) (Kd.S_typed (by (with_reducible repeat (first | apply Kd.S_alloc | apply Kd.S_drewN | apply Kd.S_drew)); exact HO_3.out)) (by decide) hg); have n1_ := As_ (Kd.R_over' (by (with_reducible repeat (first | apply Kd.R_alloc | apply Kd.R_drewN | apply Kd.R_drew)); exact HO_56.out) (Kd.S_typed (by (with_reducible repeat (first | apply Kd.S_alloc | apply Kd.S_drewN | apply Kd.S_drew)); exact HO_3.out)) (by decide) hg); have n2_ := As_ (blk_grown (g := gb313) (o := .cells #[.int .i64 a0_0, .int .i64 a0_1, .slice A0_2 l0_2.length c0_2] 31 (0, 0)) BK313.out hg (Kd.S_ne HO_3.out BK313.out (by decide))); have n3_ := As_ (hb); have n4_ := As_ (ho); clear HO_5; clear HO_56; clear BK313; clear HB; clear HO_3; clear HO331; have HO_5 := n0_; have HO_56 := n1_; have BK313 := n2_; have HB := n3_; have HO334 := n4_; clear n0_ n1_ n2_ n3_ n4_; clear ho hb hg hat))
                    go_roundg k3
                    case measure => have := HK1.out; have := HK2.out; have := HK3.out; omega
                    case rel => exact ⟨(y332), (wrap64 (x58_3 + 1)), (by first | rfl | (simp; done) | (simp [*]; done)), H', ⟨by have := HK1.out; have := HK2.out; have := HK3.out; omega⟩, ⟨by (with_reducible repeat (first | apply Kd.S_alloc | apply Kd.S_drewN | apply Kd.S_drew)); exact HO334.out⟩, ⟨by (with_reducible repeat (first | apply Kd.R_alloc | apply Kd.R_drewN | apply Kd.R_drew)); exact HO_5.out⟩, ⟨by (with_reducible repeat (first | apply Kd.R_alloc | apply Kd.R_drewN | apply Kd.R_drew)); exact HO_56.out⟩, ⟨by (with_reducible repeat (first | refine blk_drewN ?_ _ | refine blk_drew ?_ | refine blk_alloc ?_ _)); exact BK313.out⟩, ⟨by repeat (first | (with_reducible first | exact HB.out | apply below_alloc | apply pw_below_drewN | apply below_drew1 | refine below_set ?_ GE313.out) | exact HB.out)⟩⟩
                · rw [if_neg c44] at H
                  have c44b0 : decide (0 < x58_3) = false := decide_eq_false c44
                  clear c44
                  obtain ⟨y335, hy335⟩ : ∃ y_ : List Int, y_ = (([x15_1, x58_3, wrap64 (x58_3 + 1)] : List Int)) := ⟨_, rfl⟩
                  replace H : (if x3_3.length < 5864062014805 then (impl_Cut_linesAcross.l3 k3 (x3_3 ++ [y335]) x15_1 x5_2 (wrap64 (a0_1 + 1)) x15_1 x5_2 (x5_2.length : Int) (wrap64 (x58_3 + 1)) a0_0 a0_1 l0_2) else (none)) = some r := by first | (rw [hy335]; with_reducible exact H) | (have H2_ := (Option.bind_some _ _).symm.trans H; rw [hy335]; with_reducible exact H2_) | (have H2_ := (Option.bind_some _ _).symm.trans H; with_reducible exact H2_) | with_reducible exact H | (rw [hy335]; exact H) | exact H
                  have Ny335 := As_ hy335
                  clear hy335
                  by_cases c63 : x3_3.length < 5864062014805
                  case neg => rw [if_neg c63] at H; exact absurd H (by simp)
                  rw [if_pos c63] at H
                  have LMc63 := As_ c63
                  clear c63
                  obtain ⟨y338, hy338⟩ : ∃ y_ : List (List Int), y_ = (x3_3 ++ [y335]) := ⟨_, rfl⟩
                  replace H : (impl_Cut_linesAcross.l3 k3 y338 x15_1 x5_2 (wrap64 (a0_1 + 1)) x15_1 x5_2 (x5_2.length : Int) (wrap64 (x58_3 + 1)) a0_0 a0_1 l0_2) = some r := by first | (rw [hy338]; with_reducible exact H) | (have H2_ := (Option.bind_some _ _).symm.trans H; rw [hy338]; with_reducible exact H2_) | (have H2_ := (Option.bind_some _ _).symm.trans H; with_reducible exact H2_) | with_reducible exact H | (rw [hy338]; exact H) | exact H
                  have Ny338 := As_ hy338
                  clear hy338
                  have H' := As_ H
                  clear H
                  have p323 : 0 ≤ (x58_3 : Int) := of_decide_eq_true (by first | (with_reducible assumption) | assumption)
                  have q323 : x58_3 < (x5_2.length : Int) := of_decide_eq_true (by first | (with_reducible assumption) | assumption)
                  obtain ⟨ad323, e323, hx323_0⟩ := Kd.at_bool (Kd.R_reads' HO_56.out).2.2 x58_3 p323 q323
                  (try rw [← Nbq42.out] at hx323_0)
                  cases e323
                  replace p323 := eq_true p323
                  replace q323 := eq_true q323
                  go_wp2_with (first | ((with_reducible refine gate_dst (N := 68) rfl ?_); refine Kd.R_lit (Kd.int .i64) _ 3 ?hg (N := 68) ?hd (xs := ([x15_1, x58_3, wrap64 (x58_3 + 1)] : List Int)) (inner := [.int .i64 x15_1, .int .i64 x58_3, .int .i64 (wrap64 (x58_3 + 1))]) (ok := fun _ => True) (okp := fun _ => True) ?hr ?hp (fun _ hk => hk) trivial (Below.refl _ _) (Nat.le_refl _) (by simp) ?_; (case hd => rfl); (case hg => rfl); (case hr => first | (go_simp; done) | (go_simp; rfl)); (case hp => exact (Reps.one (show Kd.M (Kd.int .i64) _ _ _ x15_1 [.int .i64 x15_1] from rfl) (Reps.one (show Kd.M (Kd.int .i64) _ _ _ x58_3 [.int .i64 x58_3] from rfl) (Reps.one (show Kd.M (Kd.int .i64) _ _ _ (wrap64 (x58_3 + 1)) [.int .i64 (wrap64 (x58_3 + 1))] from rfl) (Reps.none _ _))))); intro v336 w64 ho65 hb hg_ hnew_; clear hg_ hnew_; (first | rw [← Ny335.out] at ho65 | (simp only [Int.reduceToNat] at ho65; rw [← Ny335.out] at ho65)); have HO337 := As_ (Kd.R_lower ho65 (below_size (by repeat (first | (with_reducible first | exact HB.out | apply below_alloc | apply pw_below_drewN | apply below_drew1 | refine below_set ?_ GE313.out) | exact HB.out)))); replace HO_3 := As_ (Kd.S_elder' (by (with_reducible repeat (first | apply Kd.S_alloc | apply Kd.S_drewN | apply Kd.S_drew)); exact HO_3.out) (Kd.R_base ho65) hb); replace HO_5 := As_ (Kd.R_below (by (with_reducible repeat (first | apply Kd.R_alloc | apply Kd.R_drewN | apply Kd.R_drew)); exact HO_5.out) hb); replace HO_56 := As_ (Kd.R_below (by (with_reducible repeat (first | apply Kd.R_alloc | apply Kd.R_drewN | apply Kd.R_drew)); exact HO_56.out) hb); replace BK313 := As_ (blk_b hb BK313.out); replace HB := As_ (below_step (by repeat (first | (with_reducible first | exact HB.out | apply below_alloc | apply pw_below_drewN | apply below_drew1 | refine below_set ?_ GE313.out) | exact HB.out)) hb); clear hb ho65; obtain ⟨Ao67, co67, eo67⟩ := Kd.R_slice HO337.out; subst eo67) | ((with_reducible refine gate_builtin (b := .append) (xs := #[.tmp 63, .tmp 69]) rfl ?_); at_builtin; refine Kd.S_append (Kd.slice 3 (Kd.int .i64)) (w0 := w) w.heap.size rfl (.tmp 63) (.tmp 69) 98 26 (.slice none 0 0) 24 rfl Try.underlying98 info26 rfl (by decide) (by omega) u3 x3_3 y335 [.slice Ao67 y335.length co67] (fun _ => True) (fun k_ => some k_ = (.slice Ao67 y335.length co67 : Value).ownBlock) rfl rfl ?aP (fun k_ hk_ => ((Kd.R_mono (ok' := fun k_ => ((fun _ => True)) k_ ∧ some k_ ≠ (u3 : Value).ownBlock) (Kd.R_apart' (HO337.out) (Kd.S_typed HO_3.out) (by decide)) (fun k_ hk => ⟨trivial, hk.2⟩))).1 k_ hk_.symm) ?aF ?aO ?aB ?aS ?aL ?_; (case aP => exact Kd.M_row (Kd.R_mono (Kd.R_tight rfl (Kd.R_mono (ok' := fun k_ => ((fun _ => True)) k_ ∧ some k_ ≠ (u3 : Value).ownBlock) (Kd.R_apart' (HO337.out) (Kd.S_typed HO_3.out) (by decide)) (fun k_ hk => ⟨trivial, hk.2⟩))) (fun _ h_ => h_))); (case aB => exact (by repeat (first | (with_reducible first | exact HB.out | apply below_alloc | apply pw_below_drewN | apply below_drew1 | refine below_set ?_ GE313.out) | exact HB.out))); (case aF => exact (fun _ _ => trivial)); (case aO => exact (by (with_reducible repeat (first | apply Kd.S_alloc | apply Kd.S_drewN | apply Kd.S_drew)); exact Kd.S_mono HO_3.out (fun k_ hk => ⟨trivial, fun e_ => hk.2 e_⟩))); (case aS => exact (below_size (by repeat (first | (with_reducible first | exact HB.out | apply below_alloc | apply pw_below_drewN | apply below_drew1 | refine below_set ?_ GE313.out) | exact HB.out)))); (case aL => have := LMc63.out; omega); intro v339 w66 ho hb hg hat; rw [← Ny338.out] at ho; have n0_ := As_ (Kd.R_over' (by (with_reducible repeat (first | apply Kd.R_alloc | apply Kd.R_drewN | apply Kd.R_drew)); exact HO_5.out) (Kd.S_typed (by (with_reducible repeat (first | apply Kd.S_alloc | apply Kd.S_drewN | apply Kd.S_drew)); exact HO_3.out)) (by decide) hg); have n1_ := As_ (Kd.R_over' (by (with_reducible repeat (first | apply Kd.R_alloc | apply Kd.R_drewN | apply Kd.R_drew)); exact HO_56.out) (Kd.S_typed (by (with_reducible repeat (first | apply Kd.S_alloc | apply Kd.S_drewN | apply Kd.S_drew)); exact HO_3.out)) (by decide) hg); have n2_ := As_ (blk_grown (g := gb313) (o := .cells #[.int .i64 a0_0, .int .i64 a0_1, .slice A0_2 l0_2.length c0_2] 31 (0, 0)) BK313.out hg (Kd.S_ne HO_3.out BK313.out (by decide))); have n3_ := As_ (hb); have n4_ := As_ (ho); clear HO_5; clear HO_56; clear BK313; clear HB; clear HO_3; clear HO337; have HO_5 := n0_; have HO_56 := n1_; have BK313 := n2_; have HB := n3_; have HO340 := n4_; clear n0_ n1_ n2_ n3_ n4_; clear ho hb hg hat))
                  go_roundg k3
                  case measure => have := HK1.out; have := HK2.out; have := HK3.out; omega
                  case rel => exact ⟨(y338), (wrap64 (x58_3 + 1)), (by first | rfl | (simp; done) | (simp [*]; done)), H', ⟨by have := HK1.out; have := HK2.out; have := HK3.out; omega⟩, ⟨by (with_reducible repeat (first | apply Kd.S_alloc | apply Kd.S_drewN | apply Kd.S_drew)); exact HO340.out⟩, ⟨by (with_reducible repeat (first | apply Kd.R_alloc | apply Kd.R_drewN | apply Kd.R_drew)); exact HO_5.out⟩, ⟨by (with_reducible repeat (first | apply Kd.R_alloc | apply Kd.R_drewN | apply Kd.R_drew)); exact HO_56.out⟩, ⟨by (with_reducible repeat (first | refine blk_drewN ?_ _ | refine blk_drew ?_ | refine blk_alloc ?_ _)); exact BK313.out⟩, ⟨by repeat (first | (with_reducible first | exact HB.out | apply below_alloc | apply pw_below_drewN | apply below_drew1 | refine below_set ?_ GE313.out) | exact HB.out)⟩⟩
              · replace c43 := Bool.eq_false_iff.mpr c43
                subst c43
                have H1 : (impl_Cut_linesAcross.l3 k3 x3_3 x15_1 x5_2 (wrap64 (a0_1 + 1)) x15_1 x5_2 (x5_2.length : Int) (wrap64 (x58_3 + 1)) a0_0 a0_1 l0_2) = some r := by rw [if_neg (show ¬ (false = true) by decide)] at H; exact H
                clear H
                have H := H1
                clear H1
                have H' := As_ H
                clear H
                have p323 : 0 ≤ (x58_3 : Int) := of_decide_eq_true (by first | (with_reducible assumption) | assumption)
                have q323 : x58_3 < (x5_2.length : Int) := of_decide_eq_true (by first | (with_reducible assumption) | assumption)
                obtain ⟨ad323, e323, hx323_0⟩ := Kd.at_bool (Kd.R_reads' HO_56.out).2.2 x58_3 p323 q323
                (try rw [← Nbq42.out] at hx323_0)
                cases e323
                replace p323 := eq_true p323
                replace q323 := eq_true q323
                go_wp2
                go_roundg k3
                case measure => have := HK1.out; have := HK2.out; have := HK3.out; omega
                case rel => exact ⟨(x3_3), (wrap64 (x58_3 + 1)), (by first | rfl | (simp; done) | (simp [*]; done)), H', ⟨by have := HK1.out; have := HK2.out; have := HK3.out; omega⟩, ⟨by (with_reducible repeat (first | apply Kd.S_alloc | apply Kd.S_drewN | apply Kd.S_drew)); exact HO_3.out⟩, ⟨by (with_reducible repeat (first | apply Kd.R_alloc | apply Kd.R_drewN | apply Kd.R_drew)); exact HO_5.out⟩, ⟨by (with_reducible repeat (first | apply Kd.R_alloc | apply Kd.R_drewN | apply Kd.R_drew)); exact HO_56.out⟩, ⟨by (with_reducible repeat (first | refine blk_drewN ?_ _ | refine blk_drew ?_ | refine blk_alloc ?_ _)); exact BK313.out⟩, ⟨by repeat (first | (with_reducible first | exact HB.out | apply below_alloc | apply pw_below_drewN | apply below_drew1 | refine below_set ?_ GE313.out) | exact HB.out)⟩⟩
            · rw [if_neg c39] at H
              have c39b0 : decide (x58_3 < (x5_2.length : Int)) = false := decide_eq_false c39
              clear c39
              have H' := As_ H
              clear H
              go_wp2
              go_roundg k3
              case measure => have := HK1.out; have := HK2.out; have := HK3.out; omega
              case rel => exact ⟨(x3_3), (wrap64 (x15_1 + 1)), (by first | rfl | (simp; done) | (simp [*]; done)), H', ⟨by have := HK1.out; have := HK2.out; have := HK3.out; omega⟩, ⟨by (with_reducible repeat (first | apply Kd.S_alloc | apply Kd.S_drewN | apply Kd.S_drew)); exact HO_3.out⟩, ⟨by (with_reducible repeat (first | refine blk_drewN ?_ _ | refine blk_drew ?_ | refine blk_alloc ?_ _)); exact BK313.out⟩, ⟨by repeat (first | (with_reducible first | exact HB.out | apply below_alloc | apply pw_below_drewN | apply below_drew1 | refine below_set ?_ GE313.out) | exact HB.out)⟩⟩
    · rw [if_neg c6] at H
      have c6b0 : decide (x15_1 < (wrap64 (a0_1 + 1))) = false := decide_eq_false c6
      clear c6
      obtain rfl := Option.some.inj H
      go_wp2
      go_ret
      exact ⟨_, by first | rfl | (simp [errW_none, errW_some] <;> rfl) | (simp [*, errW_none, errW_some] <;> rfl), by (with_reducible repeat (first | apply Kd.S_alloc | apply Kd.S_drewN | apply Kd.S_drew)); exact HO_3.out, by repeat (first | (with_reducible first | exact HB.out | apply below_alloc | apply pw_below_drewN | apply below_drew1 | refine below_set ?_ GE313.out) | exact HB.out)⟩

end Go.Proofs.Ytipiaiolhhnnhaa.PFnExactDoesFit
