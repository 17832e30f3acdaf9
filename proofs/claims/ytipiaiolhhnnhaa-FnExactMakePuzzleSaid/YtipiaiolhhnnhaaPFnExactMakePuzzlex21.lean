-- Written by a program of this session (wip/tools/pg.py) out of the translation.
import Derived.Test.YtipiaiolhhnnhaaPFnExactMakePuzzlex0
namespace Go.Proofs.Ytipiaiolhhnnhaa.PFnExactMakePuzzle
open Go.RowKit Go.Proofs.YtipiaiolhhnnhaaW.PrintWords Go.Proofs.YtipiaiolhhnnhaaW.PrintLast Go.Proofs.YtipiaiolhhnnhaaW.PrintMore Go.Proofs.YtipiaiolhhnnhaaH
attribute [local go_sem] max2_int min2_int max_two min_two max_three min_three max_four min_four   -- for this text's walks alone
set_option linter.unusedVariables false
set_option linter.unusedSimpArgs false

/-! ### impl_Cut_linesAcross: function 100 -/
mutual
def impl_Cut_linesAcross.l0 : Nat → List (List Int) → Int → Int → Int → Int → List (S87) → Option ((List (List Int)))
 | 0, _, _, _, _, _, _ => none
 | k + 1, x3, x14, x15, x325000, x325001, x325002 => if x15 < x14 then (if 0 ≤ x325000 then (if (x325000 : Int).toNat ≤ 281474976710656 then (impl_Cut_linesAcross.l1 k x3 x15 (List.replicate (x325000 : Int).toNat false) x14 x15 x325002 (x325002.length : Int) 0 x325000 x325001 x325002) else (none)) else (none)) else (some x3)
def impl_Cut_linesAcross.l1 : Nat → List (List Int) → Int → List Bool → Int → Int → List (S87) → Int → Int → Int → Int → List (S87) → Option ((List (List Int)))
 | 0, _, _, _, _, _, _, _, _, _, _, _ => none
 | k + 1, x3, x4, x5, x14, x15, x22, x23, x24, x325000, x325001, x325002 => if x24 < x23 then (if 0 ≤ x24 then (if x24 < (x22.length : Int) then (if ((rd_T87 x22 x24).f1) = x4 then (impl_Cut_linesAcross.j2 k x3 x4 x5 x14 x15 x22 x23 x24 true x325000 x325001 x325002 ((rd_T87 x22 x24).f0) ((rd_T87 x22 x24).f1) ((rd_T87 x22 x24).f2)) else (impl_Cut_linesAcross.j2 k x3 x4 x5 x14 x15 x22 x23 x24 ((wrap64 (((rd_T87 x22 x24).f1) + ((rd_T87 x22 x24).f2))) == x4) x325000 x325001 x325002 ((rd_T87 x22 x24).f0) ((rd_T87 x22 x24).f1) ((rd_T87 x22 x24).f2))) else (none)) else (none)) else (impl_Cut_linesAcross.l3 k x3 x4 x5 x14 x15 x5 (x5.length : Int) 0 x325000 x325001 x325002)
def impl_Cut_linesAcross.j2 : Nat → List (List Int) → Int → List Bool → Int → Int → List (S87) → Int → Int → Bool → Int → Int → List (S87) → Int → Int → Int → Option ((List (List Int)))
 | 0, _, _, _, _, _, _, _, _, _, _, _, _, _, _, _ => none
 | k + 1, x3, x4, x5, x14, x15, x22, x23, x24, x40, x325000, x325001, x325002, x333000, x333001, x333002 => if x40 = true then (impl_Cut_linesAcross.l2 k x3 x4 x5 x333000 x14 x15 x22 x23 x24 x325000 x325001 x325002 x333000 x333001 x333002) else (impl_Cut_linesAcross.l1 k x3 x4 x5 x14 x15 x22 x23 (wrap64 (x24 + 1)) x325000 x325001 x325002)
def impl_Cut_linesAcross.l2 : Nat → List (List Int) → Int → List Bool → Int → Int → Int → List (S87) → Int → Int → Int → Int → List (S87) → Int → Int → Int → Option ((List (List Int)))
 | 0, _, _, _, _, _, _, _, _, _, _, _, _, _, _, _ => none
 | k + 1, x3, x4, x5, x8, x14, x15, x22, x23, x24, x325000, x325001, x325002, x333000, x333001, x333002 => if x8 < (wrap64 (x333000 + x333002)) then (if 0 ≤ x8 then (if x8 < (x5.length : Int) then (impl_Cut_linesAcross.l2 k x3 x4 (x5.set (x8 : Int).toNat true) (wrap64 (x8 + 1)) x14 x15 x22 x23 x24 x325000 x325001 x325002 x333000 x333001 x333002) else (none)) else (none)) else (impl_Cut_linesAcross.l1 k x3 x4 x5 x14 x15 x22 x23 (wrap64 (x24 + 1)) x325000 x325001 x325002)
def impl_Cut_linesAcross.l3 : Nat → List (List Int) → Int → List Bool → Int → Int → List Bool → Int → Int → Int → Int → List (S87) → Option ((List (List Int)))
 | 0, _, _, _, _, _, _, _, _, _, _, _ => none
 | k + 1, x3, x4, x5, x14, x15, x56, x57, x58, x325000, x325001, x325002 => if x58 < x57 then (if 0 ≤ x58 then (if x58 < (x56.length : Int) then (if rdOf false x56 x58 = true then (if x58 > 0 then (if 0 ≤ (wrap64 (x58 - 1)) then (if (wrap64 (x58 - 1)) < (x5.length : Int) then (if rdOf false x5 (wrap64 (x58 - 1)) = true then (if 0 ≤ (wrap64 ((x3.length : Int) - 1)) then (if (wrap64 ((x3.length : Int) - 1)) < (x3.length : Int) then (if 2 < ((rd_L6 x3 (wrap64 ((x3.length : Int) - 1))).length : Int) then (impl_Cut_linesAcross.l3 k (x3.set ((wrap64 ((x3.length : Int) - 1)) : Int).toNat ((rd_L6 x3 (wrap64 ((x3.length : Int) - 1))).set (2 : Int).toNat (wrap64 (x58 + 1)))) x4 x5 x14 x15 x56 x57 (wrap64 (x58 + 1)) x325000 x325001 x325002) else (none)) else (none)) else (none)) else (if x3.length < 5864062014805 then (impl_Cut_linesAcross.l3 k (x3 ++ [(([x4, x58, wrap64 (x58 + 1)] : List Int))]) x4 x5 x14 x15 x56 x57 (wrap64 (x58 + 1)) x325000 x325001 x325002) else (none))) else (none)) else (none)) else (if x3.length < 5864062014805 then (impl_Cut_linesAcross.l3 k (x3 ++ [(([x4, x58, wrap64 (x58 + 1)] : List Int))]) x4 x5 x14 x15 x56 x57 (wrap64 (x58 + 1)) x325000 x325001 x325002) else (none))) else (impl_Cut_linesAcross.l3 k x3 x4 x5 x14 x15 x56 x57 (wrap64 (x58 + 1)) x325000 x325001 x325002)) else (none)) else (none)) else (impl_Cut_linesAcross.l0 k x3 x14 (wrap64 (x15 + 1)) x325000 x325001 x325002)
end
def impl_Cut_linesAcross.f (k : Nat) (a0_0 : Int) (a0_1 : Int) (l0_2 : List (S87)) : Option ((List (List Int))) := impl_Cut_linesAcross.l0 k (([] : List (List Int))) (wrap64 (a0_1 + 1)) 0 a0_0 a0_1 l0_2
theorem impl_Cut_linesAcross.mono_l : ∀ k, (∀ y0 y1 y2 y3 y4 y5, LeO (impl_Cut_linesAcross.l0 k y0 y1 y2 y3 y4 y5) (impl_Cut_linesAcross.l0 (k + 1) y0 y1 y2 y3 y4 y5)) ∧ (∀ y0 y1 y2 y3 y4 y5 y6 y7 y8 y9 y10, LeO (impl_Cut_linesAcross.l1 k y0 y1 y2 y3 y4 y5 y6 y7 y8 y9 y10) (impl_Cut_linesAcross.l1 (k + 1) y0 y1 y2 y3 y4 y5 y6 y7 y8 y9 y10)) ∧ (∀ y0 y1 y2 y3 y4 y5 y6 y7 y8 y9 y10 y11 y12 y13 y14, LeO (impl_Cut_linesAcross.j2 k y0 y1 y2 y3 y4 y5 y6 y7 y8 y9 y10 y11 y12 y13 y14) (impl_Cut_linesAcross.j2 (k + 1) y0 y1 y2 y3 y4 y5 y6 y7 y8 y9 y10 y11 y12 y13 y14)) ∧ (∀ y0 y1 y2 y3 y4 y5 y6 y7 y8 y9 y10 y11 y12 y13 y14, LeO (impl_Cut_linesAcross.l2 k y0 y1 y2 y3 y4 y5 y6 y7 y8 y9 y10 y11 y12 y13 y14) (impl_Cut_linesAcross.l2 (k + 1) y0 y1 y2 y3 y4 y5 y6 y7 y8 y9 y10 y11 y12 y13 y14)) ∧ (∀ y0 y1 y2 y3 y4 y5 y6 y7 y8 y9 y10, LeO (impl_Cut_linesAcross.l3 k y0 y1 y2 y3 y4 y5 y6 y7 y8 y9 y10) (impl_Cut_linesAcross.l3 (k + 1) y0 y1 y2 y3 y4 y5 y6 y7 y8 y9 y10))
 | 0 => ⟨fun _ _ _ _ _ _ r h => by simp [impl_Cut_linesAcross.l0] at h, fun _ _ _ _ _ _ _ _ _ _ _ r h => by simp [impl_Cut_linesAcross.l1] at h, fun _ _ _ _ _ _ _ _ _ _ _ _ _ _ _ r h => by simp [impl_Cut_linesAcross.j2] at h, fun _ _ _ _ _ _ _ _ _ _ _ _ _ _ _ r h => by simp [impl_Cut_linesAcross.l2] at h, fun _ _ _ _ _ _ _ _ _ _ _ r h => by simp [impl_Cut_linesAcross.l3] at h⟩
 | k + 1 => by
  obtain ⟨ih0, ih1, ih2, ih3, ih4⟩ := impl_Cut_linesAcross.mono_l k
  refine ⟨?_, ?_, ?_, ?_, ?_⟩
  ·
   intro y0 y1 y2 y3 y4 y5
   unfold impl_Cut_linesAcross.l0
   repeat' first
   | (with_reducible exact ih0 _ _ _ _ _ _)
   | (with_reducible exact ih1 _ _ _ _ _ _ _ _ _ _ _)
   | (with_reducible exact ih2 _ _ _ _ _ _ _ _ _ _ _ _ _ _ _)
   | (with_reducible exact ih3 _ _ _ _ _ _ _ _ _ _ _ _ _ _ _)
   | (with_reducible exact ih4 _ _ _ _ _ _ _ _ _ _ _)
   | (with_reducible exact LeO.refl _)
   | (with_reducible exact LeO.none _)
   | (with_reducible refine LeO.ite ?_ ?_)
   | (with_reducible refine LeO.bind ?_ (fun _ => ?_))
   | exact ih0 _ _ _ _ _ _
   | exact ih1 _ _ _ _ _ _ _ _ _ _ _
   | exact ih2 _ _ _ _ _ _ _ _ _ _ _ _ _ _ _
   | exact ih3 _ _ _ _ _ _ _ _ _ _ _ _ _ _ _
   | exact ih4 _ _ _ _ _ _ _ _ _ _ _
   | exact LeO.none _
   | refine LeO.ite ?_ ?_
   | refine LeO.bind ?_ (fun _ => ?_)
  ·
   intro y0 y1 y2 y3 y4 y5 y6 y7 y8 y9 y10
   unfold impl_Cut_linesAcross.l1
   repeat' first
   | (with_reducible exact ih0 _ _ _ _ _ _)
   | (with_reducible exact ih1 _ _ _ _ _ _ _ _ _ _ _)
   | (with_reducible exact ih2 _ _ _ _ _ _ _ _ _ _ _ _ _ _ _)
   | (with_reducible exact ih3 _ _ _ _ _ _ _ _ _ _ _ _ _ _ _)
   | (with_reducible exact ih4 _ _ _ _ _ _ _ _ _ _ _)
   | (with_reducible exact LeO.refl _)
   | (with_reducible exact LeO.none _)
   | (with_reducible refine LeO.ite ?_ ?_)
   | (with_reducible refine LeO.bind ?_ (fun _ => ?_))
   | exact ih0 _ _ _ _ _ _
   | exact ih1 _ _ _ _ _ _ _ _ _ _ _
   | exact ih2 _ _ _ _ _ _ _ _ _ _ _ _ _ _ _
   | exact ih3 _ _ _ _ _ _ _ _ _ _ _ _ _ _ _
   | exact ih4 _ _ _ _ _ _ _ _ _ _ _
   | exact LeO.none _
   | refine LeO.ite ?_ ?_
   | refine LeO.bind ?_ (fun _ => ?_)
  ·
   intro y0 y1 y2 y3 y4 y5 y6 y7 y8 y9 y10 y11 y12 y13 y14
   unfold impl_Cut_linesAcross.j2
   repeat' first
   | (with_reducible exact ih0 _ _ _ _ _ _)
   | (with_reducible exact ih1 _ _ _ _ _ _ _ _ _ _ _)
   | (with_reducible exact ih2 _ _ _ _ _ _ _ _ _ _ _ _ _ _ _)
   | (with_reducible exact ih3 _ _ _ _ _ _ _ _ _ _ _ _ _ _ _)
   | (with_reducible exact ih4 _ _ _ _ _ _ _ _ _ _ _)
   | (with_reducible exact LeO.refl _)
   | (with_reducible exact LeO.none _)
   | (with_reducible refine LeO.ite ?_ ?_)
   | (with_reducible refine LeO.bind ?_ (fun _ => ?_))
   | exact ih0 _ _ _ _ _ _
   | exact ih1 _ _ _ _ _ _ _ _ _ _ _
   | exact ih2 _ _ _ _ _ _ _ _ _ _ _ _ _ _ _
   | exact ih3 _ _ _ _ _ _ _ _ _ _ _ _ _ _ _
   | exact ih4 _ _ _ _ _ _ _ _ _ _ _
   | exact LeO.none _
   | refine LeO.ite ?_ ?_
   | refine LeO.bind ?_ (fun _ => ?_)
  ·
   intro y0 y1 y2 y3 y4 y5 y6 y7 y8 y9 y10 y11 y12 y13 y14
   unfold impl_Cut_linesAcross.l2
   repeat' first
   | (with_reducible exact ih0 _ _ _ _ _ _)
   | (with_reducible exact ih1 _ _ _ _ _ _ _ _ _ _ _)
   | (with_reducible exact ih2 _ _ _ _ _ _ _ _ _ _ _ _ _ _ _)
   | (with_reducible exact ih3 _ _ _ _ _ _ _ _ _ _ _ _ _ _ _)
   | (with_reducible exact ih4 _ _ _ _ _ _ _ _ _ _ _)
   | (with_reducible exact LeO.refl _)
   | (with_reducible exact LeO.none _)
   | (with_reducible refine LeO.ite ?_ ?_)
   | (with_reducible refine LeO.bind ?_ (fun _ => ?_))
   | exact ih0 _ _ _ _ _ _
   | exact ih1 _ _ _ _ _ _ _ _ _ _ _
   | exact ih2 _ _ _ _ _ _ _ _ _ _ _ _ _ _ _
   | exact ih3 _ _ _ _ _ _ _ _ _ _ _ _ _ _ _
   | exact ih4 _ _ _ _ _ _ _ _ _ _ _
   | exact LeO.none _
   | refine LeO.ite ?_ ?_
   | refine LeO.bind ?_ (fun _ => ?_)
  ·
   intro y0 y1 y2 y3 y4 y5 y6 y7 y8 y9 y10
   unfold impl_Cut_linesAcross.l3
   repeat' first
   | (with_reducible exact ih0 _ _ _ _ _ _)
   | (with_reducible exact ih1 _ _ _ _ _ _ _ _ _ _ _)
   | (with_reducible exact ih2 _ _ _ _ _ _ _ _ _ _ _ _ _ _ _)
   | (with_reducible exact ih3 _ _ _ _ _ _ _ _ _ _ _ _ _ _ _)
   | (with_reducible exact ih4 _ _ _ _ _ _ _ _ _ _ _)
   | (with_reducible exact LeO.refl _)
   | (with_reducible exact LeO.none _)
   | (with_reducible refine LeO.ite ?_ ?_)
   | (with_reducible refine LeO.bind ?_ (fun _ => ?_))
   | exact ih0 _ _ _ _ _ _
   | exact ih1 _ _ _ _ _ _ _ _ _ _ _
   | exact ih2 _ _ _ _ _ _ _ _ _ _ _ _ _ _ _
   | exact ih3 _ _ _ _ _ _ _ _ _ _ _ _ _ _ _
   | exact ih4 _ _ _ _ _ _ _ _ _ _ _
   | exact LeO.none _
   | refine LeO.ite ?_ ?_
   | refine LeO.bind ?_ (fun _ => ?_)
theorem impl_Cut_linesAcross.mono : ∀ a0 a1 a2 k, LeO (impl_Cut_linesAcross.f k a0 a1 a2) (impl_Cut_linesAcross.f (k + 1) a0 a1 a2) := by
 intro a0 a1 a2 k
 obtain ⟨ih0, ih1, ih2, ih3, ih4⟩ := impl_Cut_linesAcross.mono_l k
 unfold impl_Cut_linesAcross.f
 repeat' first
   | (with_reducible exact ih0 _ _ _ _ _ _)
   | (with_reducible exact ih1 _ _ _ _ _ _ _ _ _ _ _)
   | (with_reducible exact ih2 _ _ _ _ _ _ _ _ _ _ _ _ _ _ _)
   | (with_reducible exact ih3 _ _ _ _ _ _ _ _ _ _ _ _ _ _ _)
   | (with_reducible exact ih4 _ _ _ _ _ _ _ _ _ _ _)
   | (with_reducible exact LeO.refl _)
   | (with_reducible exact LeO.none _)
   | (with_reducible refine LeO.ite ?_ ?_)
   | (with_reducible refine LeO.bind ?_ (fun _ => ?_))
   | exact ih0 _ _ _ _ _ _
   | exact ih1 _ _ _ _ _ _ _ _ _ _ _
   | exact ih2 _ _ _ _ _ _ _ _ _ _ _ _ _ _ _
   | exact ih3 _ _ _ _ _ _ _ _ _ _ _ _ _ _ _
   | exact ih4 _ _ _ _ _ _ _ _ _ _ _
   | exact LeO.none _
   | refine LeO.ite ?_ ?_
   | refine LeO.bind ?_ (fun _ => ?_)
set_option maxHeartbeats 8000000 in
set_option maxRecDepth 100000 in
theorem impl_Cut_linesAcross.calls (k : Nat) (a0_0 : Int) (a0_1 : Int) (A0_2 : Option Addr) (c0_2 : Nat) (l0_2 : List (S87)) (r : List (List Int)) (w : World) (hr0_2 : Kd.C k87 w A0_2 l0_2.length l0_2) (hc0_2 : l0_2.length ≤ c0_2) (h : impl_Cut_linesAcross.f k a0_0 a0_1 l0_2 = some r) :
  Calls Try.prog 100 #[.agg #[.int .i64 a0_0, .int .i64 a0_1, .slice A0_2 l0_2.length c0_2]] w fun e w' => ∃ v0_ : Value, e = .returned (v0_) ∧ Kd.S (Kd.slice 3 (Kd.int .i64)) 26 w' w.heap.size (fun _ => True) v0_ r ∧ Below w.heap.size w w' := by
 have hu31 := Try.underlying31
 have hu87 := Try.underlying87
 have HR0_2 := As_ hr0_2
 have HC0_2 := As_ hc0_2
 clear hr0_2 hc0_2
 have HB := As_ (Below.refl w.heap.size w)
 have H : (impl_Cut_linesAcross.l0 k (([] : List (List Int))) (wrap64 (a0_1 + 1)) 0 a0_0 a0_1 l0_2) = some r := h
 clear h
 obtain ⟨y325, hy325⟩ : ∃ y_ : List (List Int), y_ = (([] : List (List Int))) := ⟨_, rfl⟩
 replace H : (impl_Cut_linesAcross.l0 k y325 (wrap64 (a0_1 + 1)) 0 a0_0 a0_1 l0_2) = some r := by first | (rw [hy325]; with_reducible exact H) | (have H2_ := (Option.bind_some _ _).symm.trans H; rw [hy325]; with_reducible exact H2_) | (have H2_ := (Option.bind_some _ _).symm.trans H; with_reducible exact H2_) | with_reducible exact H | (rw [hy325]; exact H) | exact H
 have Ny325 := As_ hy325
 clear hy325
 have H' := As_ H
 clear H
 go_enter Try.func100, Try.ntmps100
 go_wp2_with (first | ((with_reducible refine gate_dst (N := 1) rfl ?_); refine box_event rfl (N := 1) rfl (cs := #[.int .i64 a0_0, .int .i64 a0_1, .slice A0_2 l0_2.length c0_2]) (t := 31) ?hr ?_; (case hr => first | (go_simp; done) | (go_simp; rfl)); intro gb324 hg w2 hbox hb; have BK324 := As_ (hbox); have hW_ := bel_ w hb (by repeat (first | (with_reducible first | exact HB.out | apply ba_ | apply bn_ | apply bd_) | exact HB.out)); have GE324 := As_ (gesz hg hW_); replace HB := As_ (below_step hW_ hb); clear hW_ hb hbox hg) | ((with_reducible refine gate_dst (N := 11) rfl ?_); refine Kd.S_lit (Kd.slice 3 (Kd.int .i64)) _ 26 ?hg (N := 11) ?hd (xs := ([] : List (List Int))) (inner := []) (ok := fun _ => True) (okp := fun _ => True) ?hr ?hp (fun _ hk => hk) trivial (Below.refl _ _) (Nat.le_refl _) (by simp) ?_; (case hd => rfl); (case hg => rfl); (case hr => first | (go_simp; done) | (go_simp; rfl)); (case hp => exact (Reps.none _ _)); intro v326 w3 ho4 hb hg_ hnew_; clear hg_ hnew_; (first | rw [← Ny325.out] at ho4 | (simp only [Int.reduceToNat] at ho4; rw [← Ny325.out] at ho4)); have HO327 := As_ (Kd.S_lower ho4 (below_size (by repeat (first | (with_reducible first | exact HB.out | apply ba_ | apply bn_ | apply bd_ | refine bs_ ?_ GE324.out) | exact HB.out)))); replace BK324 := As_ (blk_b hb BK324.out); replace HB := As_ (below_step (by repeat (first | (with_reducible first | exact HB.out | apply ba_ | apply bn_ | apply bd_ | refine bs_ ?_ GE324.out) | exact HB.out)) hb); clear hb ho4; obtain ⟨hcz5_0, hcz5_1, hcz5_2⟩ := c3_ (w := w3) BK324.out; obtain ⟨hfz5_0, hfz5_1, hfz5_2⟩ := z3_ BK324.out))
 go_loopg [3, 15] k (fun kq v3 v15 w' => ∃ (x3_1 : List (List Int)) (x15_1 : Int), v15 = .int .i64 x15_1 ∧ Aside0 (impl_Cut_linesAcross.l0 kq x3_1 (wrap64 (a0_1 + 1)) x15_1 a0_0 a0_1 l0_2 = some r) ∧ Aside0 (kq ≤ k) ∧ Aside0 (Kd.S (Kd.slice 3 (Kd.int .i64)) 26 w' w.heap.size (fun _ => True) v3 x3_1) ∧ Aside0 (w'.heap[gb324]? = some (.cells #[.int .i64 a0_0, .int .i64 a0_1, (.slice A0_2 l0_2.length c0_2)] 31 (0, 0))) ∧ Aside0 (Below w.heap.size w w'))
 case atStart => exact ⟨(y325), (0), (by first | rfl | (simp; done) | (simp [*]; done)), H', ⟨Nat.le_refl _⟩, ⟨by (with_reducible repeat (first | apply Kd.S_alloc | apply Kd.S_drewN | apply Kd.S_drew)); exact HO327.out⟩, ⟨by (with_reducible repeat (first | refine kn_ ?_ _ | refine kd_ ?_ | refine ka_ ?_ _)); exact BK324.out⟩, ⟨by repeat (first | (with_reducible first | exact HB.out | apply ba_ | apply bn_ | apply bd_ | refine bs_ ?_ GE324.out) | exact HB.out)⟩⟩
 case round =>
  clear H'
  try clear c1; try clear p2; try clear hcz5_0 hcz5_1 hcz5_2; try clear hfz5_0 hfz5_1 hfz5_2
  obtain ⟨x3_1, x15_1, rfl, HA, HK1, HO_3, BK324, HB⟩ := hrel
  rcases gk with _ | k1
  · exact absurd HA.out (by simp [impl_Cut_linesAcross.l0])
  have H := HA.out
  clear HA
  simp only [impl_Cut_linesAcross.l0] at H
  by_cases c6 : x15_1 < (wrap64 (a0_1 + 1))
  ·
   rw [if_pos c6] at H
   have c6b0 : decide (x15_1 < (wrap64 (a0_1 + 1))) = true := decide_eq_true c6
   clear c6
   by_cases c7 : 0 ≤ a0_0
   case neg => rw [if_neg c7] at H; exact absurd H (by simp)
   rw [if_pos c7] at H
   have c7b0 := eq_true c7
   have c7b1 : decide (0 ≤ a0_0) = true := decide_eq_true c7
   clear c7
   by_cases c8 : (a0_0 : Int).toNat ≤ 281474976710656
   case neg => rw [if_neg c8] at H; exact absurd H (by simp)
   rw [if_pos c8] at H
   have c8b0 := eq_true c8
   have c8b1 : decide ((a0_0 : Int).toNat ≤ 281474976710656) = true := decide_eq_true c8
   clear c8
   obtain ⟨y328, hy328⟩ : ∃ y_ : List Bool, y_ = (List.replicate (a0_0 : Int).toNat false) := ⟨_, rfl⟩
   replace H : (impl_Cut_linesAcross.l1 k1 x3_1 x15_1 y328 (wrap64 (a0_1 + 1)) x15_1 l0_2 (l0_2.length : Int) 0 a0_0 a0_1 l0_2) = some r := by first | (rw [hy328]; with_reducible exact H) | (have H2_ := (Option.bind_some _ _).symm.trans H; rw [hy328]; with_reducible exact H2_) | (have H2_ := (Option.bind_some _ _).symm.trans H; with_reducible exact H2_) | with_reducible exact H | (rw [hy328]; exact H) | exact H
   have Ny328 := As_ hy328
   clear hy328
   have H' := As_ H
   clear H
   obtain ⟨hcz9_0, hcz9_1, hcz9_2⟩ := c3_ (w := wr) BK324.out
   obtain ⟨hfz9_0, hfz9_1, hfz9_2⟩ := z3_ BK324.out
   go_wp2_with (first | ((with_reducible refine gate_dst (N := 20) rfl ?_); refine Kd.R_make Kd.bool _ 4 rfl (N := 20) rfl 132 _ _ rfl a0_0 rfl rfl Try.underlying132 (.bool false) 1 info4 rfl (by decide) (by omega) false (ok := fun _ => True) (okp := fun _ => True) rfl (fun _ hk => hk) trivial (of_decide_eq_true (by first | (with_reducible assumption) | assumption)) (Nat.le_trans (Nat.mul_le_mul_right _ (of_decide_eq_true (by first | (with_reducible assumption) | assumption) : a0_0.toNat ≤ 281474976710656)) (by omega)) (Below.refl _ _) (Nat.le_refl _) ?_; intro v329 w10 ho11 hb hg_ hnew_; clear hg_ hnew_; (first | rw [← Ny328.out] at ho11 | (simp only [Int.reduceToNat] at ho11; rw [← Ny328.out] at ho11)); have HO330 := As_ (Kd.R_lower ho11 (below_size (by repeat (first | (with_reducible first | exact HB.out | apply ba_ | apply bn_ | apply bd_ | refine bs_ ?_ GE324.out) | exact HB.out)))); replace HO_3 := As_ (Kd.S_below (by (with_reducible repeat (first | apply Kd.S_alloc | apply Kd.S_drewN | apply Kd.S_drew)); exact HO_3.out) hb); replace BK324 := As_ (blk_b hb BK324.out); replace HB := As_ (below_step (by repeat (first | (with_reducible first | exact HB.out | apply ba_ | apply bn_ | apply bd_ | refine bs_ ?_ GE324.out) | exact HB.out)) hb); clear hb ho11; obtain ⟨hcz12_0, hcz12_1, hcz12_2⟩ := c3_ (w := w10) BK324.out; obtain ⟨hfz12_0, hfz12_1, hfz12_2⟩ := z3_ BK324.out))
   go_loopg [24] k1 (fun kq v24 w' => ∃ (x5_2 : List Bool) (x24_2 : Int), v24 = .int .i64 x24_2 ∧ Aside0 (impl_Cut_linesAcross.l1 kq x3_1 x15_1 x5_2 (wrap64 (a0_1 + 1)) x15_1 l0_2 (l0_2.length : Int) x24_2 a0_0 a0_1 l0_2 = some r) ∧ Aside0 (kq ≤ k1) ∧ Aside0 (Kd.S (Kd.slice 3 (Kd.int .i64)) 26 w' w.heap.size (fun _ => True) u3 x3_1) ∧ Aside0 (Kd.R Kd.bool 4 w' w.heap.size (fun _ => True) v329 x5_2) ∧ Aside0 (w'.heap[gb324]? = some (.cells #[.int .i64 a0_0, .int .i64 a0_1, (.slice A0_2 l0_2.length c0_2)] 31 (0, 0))) ∧ Aside0 (Below w.heap.size w w'))
   case atStart => exact ⟨(y328), (0), (by first | rfl | (simp; done) | (simp [*]; done)), H', ⟨Nat.le_refl _⟩, ⟨by (with_reducible repeat (first | apply Kd.S_alloc | apply Kd.S_drewN | apply Kd.S_drew)); exact HO_3.out⟩, ⟨by (with_reducible repeat (first | apply Kd.R_alloc | apply Kd.R_drewN | apply Kd.R_drew)); exact HO330.out⟩, ⟨by (with_reducible repeat (first | refine kn_ ?_ _ | refine kd_ ?_ | refine ka_ ?_ _)); exact BK324.out⟩, ⟨by repeat (first | (with_reducible first | exact HB.out | apply ba_ | apply bn_ | apply bd_ | refine bs_ ?_ GE324.out) | exact HB.out)⟩⟩
   case round =>
    clear H'
    try clear c1; try clear p2; try clear c6; try clear c6b0; try clear p6; try clear c7; try clear c7b0; try clear c7b1; try clear c8; try clear c8b0; try clear c8b1; try clear c10; try clear hcz12_0 hcz12_1 hcz12_2; try clear hcz5_0 hcz5_1 hcz5_2; try clear hcz9_0 hcz9_1 hcz9_2; try clear hfz12_0 hfz12_1 hfz12_2; try clear hfz5_0 hfz5_1 hfz5_2; try clear hfz9_0 hfz9_1 hfz9_2; try clear p2
    obtain ⟨x5_2, x24_2, rfl, HA, HK2, HO_3, HO_5, BK324, HB⟩ := hrel
    rcases gk with _ | k2
    · exact absurd HA.out (by simp [impl_Cut_linesAcross.l1])
    have H := HA.out
    clear HA
    simp only [impl_Cut_linesAcross.l1] at H
    by_cases c13 : x24_2 < (l0_2.length : Int)
    ·
     rw [if_pos c13] at H
     have c13b0 : decide (x24_2 < (l0_2.length : Int)) = true := decide_eq_true c13
     clear c13
     by_cases c14 : 0 ≤ x24_2
     case neg => rw [if_neg c14] at H; exact absurd H (by simp)
     rw [if_pos c14] at H
     have c14b0 : decide (0 ≤ x24_2) = true := decide_eq_true c14
     clear c14
     by_cases c15 : x24_2 < (l0_2.length : Int)
     case neg => rw [if_neg c15] at H; exact absurd H (by simp)
     rw [if_pos c15] at H
     have c15b0 : decide (x24_2 < (l0_2.length : Int)) = true := decide_eq_true c15
     clear c15
     have HC16 := As_ H
     clear H
     have p331 : 0 ≤ (x24_2 : Int) := of_decide_eq_true (by first | (with_reducible assumption) | assumption)
     have q331 : x24_2 < (l0_2.length : Int) := of_decide_eq_true (by first | (with_reducible assumption) | assumption)
     obtain ⟨ad331, e331, hx331_0, hx331_1, hx331_2⟩ := at_T87 HR0_2.out x24_2 p331 q331
     cases e331
     replace hx331_0 := pw_cell_below HB.out hx331_0
     replace hx331_1 := pw_cell_below HB.out hx331_1
     replace hx331_2 := pw_cell_below HB.out hx331_2
     replace p331 := eq_true p331
     replace q331 := eq_true q331
     go_upto_region 9 with (first | ((with_reducible refine gate_dst (N := 7) rfl ?_); refine box_event rfl (N := 7) rfl (cs := #[.int .i64 0, .int .i64 0, .int .i64 0]) (t := 87) ?hr ?_; (case hr => first | (go_simp; done) | (go_simp; rfl)); intro gb332 hg w17 hbox hb; have BK332 := As_ (hbox); have hW_ := bel_ w hb (by repeat (first | (with_reducible first | exact HB.out | apply ba_ | apply bn_ | apply bd_ | refine bs_ ?_ GE324.out) | exact HB.out)); have GE332 := As_ (gesz hg hW_); have NB324_332 := As_ (ne_lt hg BK324.out); have NB332_324 := As_ (ne_gt hg BK324.out); replace HO_3 := As_ (Kd.S_below (by (with_reducible repeat (first | apply Kd.S_alloc | apply Kd.S_drewN | apply Kd.S_drew)); exact HO_3.out) hb); replace HO_5 := As_ (Kd.R_below (by (with_reducible repeat (first | apply Kd.R_alloc | apply Kd.R_drewN | apply Kd.R_drew)); exact HO_5.out) hb); replace BK324 := As_ (blk_b hb BK324.out); replace HB := As_ (below_step hW_ hb); clear hW_ hb hbox hg; have hnb18 := NB332_324.out; have hnc18 := NB324_332.out; obtain ⟨hcz19_0, hcz19_1, hcz19_2⟩ := c3_ (w := w17) BK332.out; obtain ⟨hfz19_0, hfz19_1, hfz19_2⟩ := z3_ BK332.out))
     (try simp only [Act.put, sib_, sc0_, sc1_])
     go_cut [40] (fun v40 wc => ∃ (kq : Nat) (x40_15 : Bool), v40 = .bool x40_15 ∧ Aside0 (impl_Cut_linesAcross.j2 kq x3_1 x15_1 x5_2 (wrap64 (a0_1 + 1)) x15_1 l0_2 (l0_2.length : Int) x24_2 x40_15 a0_0 a0_1 l0_2 ((rd_T87 l0_2 x24_2).f0) ((rd_T87 l0_2 x24_2).f1) ((rd_T87 l0_2 x24_2).f2) = some r) ∧ Aside0 (kq ≤ k2) ∧ Aside0 (Kd.S (Kd.slice 3 (Kd.int .i64)) 26 wc w.heap.size (fun _ => True) u3 x3_1) ∧ Aside0 (Kd.R Kd.bool 4 wc w.heap.size (fun _ => True) v329 x5_2) ∧ Aside0 (wc.heap[gb324]? = some (.cells #[.int .i64 a0_0, .int .i64 a0_1, (.slice (some ad331) l0_2.length c0_2)] 31 (0, 0))) ∧ Aside0 (wc.heap[gb332]? = some (.cells #[.int .i64 ((rd_T87 l0_2 x24_2).f0), .int .i64 ((rd_T87 l0_2 x24_2).f1), .int .i64 ((rd_T87 l0_2 x24_2).f2)] 87 (0, 0))) ∧ Aside0 (Below w.heap.size w wc))
     case first =>
      have H := HC16.out
      clear HC16
      by_cases c20 : ((rd_T87 l0_2 x24_2).f1) = x15_1
      ·
       rw [if_pos c20] at H
       have c20b0 : (((rd_T87 l0_2 x24_2).f1) == x15_1) = true := beq_iff_eq.mpr c20
       have c20b1 : (((rd_T87 l0_2 x24_2).f1) != x15_1) = false := bne_eq_false_iff_eq.mpr c20
       clear c20
       (first | rw [c20b0] | (simp only [i64_w, i32_w]; rw [c20b0]) | skip)
       have H' := As_ H
       clear H
       have hnb21 := NB332_324.out
       have hnc21 := NB324_332.out
       obtain ⟨hcz22_0, hcz22_1, hcz22_2⟩ := c3_ (w := w17) BK332.out
       obtain ⟨hfz22_0, hfz22_1, hfz22_2⟩ := z3_ BK332.out
       go_wp2
       go_meet
       case rel => exact ⟨_, (true), (by first | rfl | (simp; done) | (simp [*]; done)), H', ⟨by have := HK1.out; have := HK2.out; first | omega | exact Nat.le_refl _⟩, ⟨by (with_reducible repeat (first | apply Kd.S_alloc | apply Kd.S_drewN | apply Kd.S_drew)); exact Kd.S_mono (Kd.S_far (p := ⟨gb332, 2, none⟩) (Kd.S_far (p := ⟨gb332, 1, none⟩) (Kd.S_far (p := ⟨gb332, 0, none⟩) (Kd.S_types HO_3.out BK332.out (by decide)) (fun _ hk => hk.2) (.int .i64 ((rd_T87 l0_2 x24_2).f0))) (fun _ hk => hk.2) (.int .i64 ((rd_T87 l0_2 x24_2).f1))) (fun _ hk => hk.2) (.int .i64 ((rd_T87 l0_2 x24_2).f2))) (fun _ hk => trivial)⟩, ⟨by (with_reducible repeat (first | apply Kd.R_alloc | apply Kd.R_drewN | apply Kd.R_drew)); exact Kd.R_mono (Kd.R_far (p := ⟨gb332, 2, none⟩) (Kd.R_far (p := ⟨gb332, 1, none⟩) (Kd.R_far (p := ⟨gb332, 0, none⟩) (Kd.R_types HO_5.out BK332.out (by decide)) (fun _ hk => hk.2) (.int .i64 ((rd_T87 l0_2 x24_2).f0))) (fun _ hk => hk.2) (.int .i64 ((rd_T87 l0_2 x24_2).f1))) (fun _ hk => hk.2) (.int .i64 ((rd_T87 l0_2 x24_2).f2))) (fun _ hk => trivial)⟩, ⟨by (with_reducible repeat (first | refine kn_ ?_ _ | refine kd_ ?_ | refine ka_ ?_ _)); refine blk_far ?_ NB324_332.out _; refine blk_far ?_ NB324_332.out _; refine blk_far ?_ NB324_332.out _; (with_reducible repeat (first | refine kn_ ?_ _ | refine kd_ ?_ | refine ka_ ?_ _)); exact BK324.out⟩, ⟨by (with_reducible repeat (first | refine kn_ ?_ _ | refine kd_ ?_ | refine ka_ ?_ _)); refine blk_put (cs := #[.int .i64 ((rd_T87 l0_2 x24_2).f0), .int .i64 ((rd_T87 l0_2 x24_2).f1), .int .i64 0]) ?_ 2 _ rfl; refine blk_put (cs := #[.int .i64 ((rd_T87 l0_2 x24_2).f0), .int .i64 0, .int .i64 0]) ?_ 1 _ rfl; refine blk_put (cs := #[.int .i64 0, .int .i64 0, .int .i64 0]) ?_ 0 _ rfl; (with_reducible repeat (first | refine kn_ ?_ _ | refine kd_ ?_ | refine ka_ ?_ _)); exact BK332.out⟩, ⟨by repeat (first | (with_reducible first | exact HB.out | apply ba_ | apply bn_ | apply bd_ | refine below_setA ?_ (by assumption)) | exact HB.out)⟩⟩
      ·
       rw [if_neg c20] at H
       have c20b0 : (((rd_T87 l0_2 x24_2).f1) == x15_1) = false := beq_eq_false_iff_ne.mpr c20
       have c20b1 : (((rd_T87 l0_2 x24_2).f1) != x15_1) = true := bne_iff_ne.mpr c20
       (first | rw [c20b0] | (simp only [i64_w, i32_w]; rw [c20b0]) | skip)
       have H' := As_ H
       clear H
       have hnb23 := NB332_324.out
       have hnc23 := NB324_332.out
       obtain ⟨hcz24_0, hcz24_1, hcz24_2⟩ := c3_ (w := w17) BK332.out
       obtain ⟨hfz24_0, hfz24_1, hfz24_2⟩ := z3_ BK332.out
       go_wp2
       go_meet
       case rel => exact ⟨_, (((wrap64 (((rd_T87 l0_2 x24_2).f1) + ((rd_T87 l0_2 x24_2).f2))) == x15_1)), (by first | rfl | (simp; done) | (simp [*]; done)), H', ⟨by have := HK1.out; have := HK2.out; first | omega | exact Nat.le_refl _⟩, ⟨by (with_reducible repeat (first | apply Kd.S_alloc | apply Kd.S_drewN | apply Kd.S_drew)); exact Kd.S_mono (Kd.S_far (p := ⟨gb332, 2, none⟩) (Kd.S_far (p := ⟨gb332, 1, none⟩) (Kd.S_far (p := ⟨gb332, 0, none⟩) (Kd.S_types HO_3.out BK332.out (by decide)) (fun _ hk => hk.2) (.int .i64 ((rd_T87 l0_2 x24_2).f0))) (fun _ hk => hk.2) (.int .i64 ((rd_T87 l0_2 x24_2).f1))) (fun _ hk => hk.2) (.int .i64 ((rd_T87 l0_2 x24_2).f2))) (fun _ hk => trivial)⟩, ⟨by (with_reducible repeat (first | apply Kd.R_alloc | apply Kd.R_drewN | apply Kd.R_drew)); exact Kd.R_mono (Kd.R_far (p := ⟨gb332, 2, none⟩) (Kd.R_far (p := ⟨gb332, 1, none⟩) (Kd.R_far (p := ⟨gb332, 0, none⟩) (Kd.R_types HO_5.out BK332.out (by decide)) (fun _ hk => hk.2) (.int .i64 ((rd_T87 l0_2 x24_2).f0))) (fun _ hk => hk.2) (.int .i64 ((rd_T87 l0_2 x24_2).f1))) (fun _ hk => hk.2) (.int .i64 ((rd_T87 l0_2 x24_2).f2))) (fun _ hk => trivial)⟩, ⟨by (with_reducible repeat (first | refine kn_ ?_ _ | refine kd_ ?_ | refine ka_ ?_ _)); refine blk_far ?_ NB324_332.out _; refine blk_far ?_ NB324_332.out _; refine blk_far ?_ NB324_332.out _; (with_reducible repeat (first | refine kn_ ?_ _ | refine kd_ ?_ | refine ka_ ?_ _)); exact BK324.out⟩, ⟨by (with_reducible repeat (first | refine kn_ ?_ _ | refine kd_ ?_ | refine ka_ ?_ _)); refine blk_put (cs := #[.int .i64 ((rd_T87 l0_2 x24_2).f0), .int .i64 ((rd_T87 l0_2 x24_2).f1), .int .i64 0]) ?_ 2 _ rfl; refine blk_put (cs := #[.int .i64 ((rd_T87 l0_2 x24_2).f0), .int .i64 0, .int .i64 0]) ?_ 1 _ rfl; refine blk_put (cs := #[.int .i64 0, .int .i64 0, .int .i64 0]) ?_ 0 _ rfl; (with_reducible repeat (first | refine kn_ ?_ _ | refine kd_ ?_ | refine ka_ ?_ _)); exact BK332.out⟩, ⟨by repeat (first | (with_reducible first | exact HB.out | apply ba_ | apply bn_ | apply bd_ | refine below_setA ?_ (by assumption)) | exact HB.out)⟩⟩
     case rest =>
      clear HC16
      try clear c1; try clear c2; try clear p2; try clear p3
      try clear q3
      try clear hx3; try clear c6; try clear c6b0; try clear p6; try clear c7; try clear c7b0; try clear c7b1; try clear c8; try clear c8b0; try clear c8b1; try clear c10; try clear c13; try clear c13b0; try clear c14; try clear c14b0; try clear c15; try clear c15b0; try clear c18; try clear c20; try clear c20b0; try clear c20b1; try clear c21; try clear c23; try clear hcz12_0 hcz12_1 hcz12_2; try clear hcz19_0 hcz19_1 hcz19_2; try clear hcz22_0 hcz22_1 hcz22_2; try clear hcz24_0 hcz24_1 hcz24_2; try clear hcz5_0 hcz5_1 hcz5_2; try clear hcz9_0 hcz9_1 hcz9_2; try clear hfz12_0 hfz12_1 hfz12_2; try clear hfz19_0 hfz19_1 hfz19_2; try clear hfz22_0 hfz22_1 hfz22_2; try clear hfz24_0 hfz24_1 hfz24_2; try clear hfz5_0 hfz5_1 hfz5_2; try clear hfz9_0 hfz9_1 hfz9_2; try clear hx331_0; try clear hx331_1; try clear hx331_2; try clear p2; try clear p331; try clear p6
      try clear q331
      obtain ⟨kq, x40_15, rfl, HA, HJ15, HO_3, HO_5, BK324, BK332, HB⟩ := hcut
      rcases kq with _ | kj15
      · exact absurd HA.out (by simp [impl_Cut_linesAcross.j2])
      have H := HA.out
      clear HA
      simp only [impl_Cut_linesAcross.j2] at H
      by_cases c25 : x40_15 = true
      ·
       subst c25
       have H1 : (impl_Cut_linesAcross.l2 kj15 x3_1 x15_1 x5_2 ((rd_T87 l0_2 x24_2).f0) (wrap64 (a0_1 + 1)) x15_1 l0_2 (l0_2.length : Int) x24_2 a0_0 a0_1 l0_2 ((rd_T87 l0_2 x24_2).f0) ((rd_T87 l0_2 x24_2).f1) ((rd_T87 l0_2 x24_2).f2)) = some r := by rw [if_pos rfl] at H; exact H
       clear H
       have H := H1
       clear H1
       have H' := As_ H
       clear H
       have hnb26 := NB332_324.out
       have hnc26 := NB324_332.out
       obtain ⟨hcz27_0, hcz27_1, hcz27_2⟩ := c3_ (w := wc) BK332.out
       obtain ⟨hfz27_0, hfz27_1, hfz27_2⟩ := z3_ BK332.out
       go_wp2
       go_loopg [8] kj15 (fun kq v8 w' => ∃ (x5_4 : List Bool) (x8_4 : Int), v8 = .int .i64 x8_4 ∧ Aside0 (impl_Cut_linesAcross.l2 kq x3_1 x15_1 x5_4 x8_4 (wrap64 (a0_1 + 1)) x15_1 l0_2 (l0_2.length : Int) x24_2 a0_0 a0_1 l0_2 ((rd_T87 l0_2 x24_2).f0) ((rd_T87 l0_2 x24_2).f1) ((rd_T87 l0_2 x24_2).f2) = some r) ∧ Aside0 (kq ≤ kj15) ∧ Aside0 (Kd.S (Kd.slice 3 (Kd.int .i64)) 26 w' w.heap.size (fun _ => True) u3 x3_1) ∧ Aside0 (Kd.R Kd.bool 4 w' w.heap.size (fun _ => True) v329 x5_4) ∧ Aside0 (w'.heap[gb324]? = some (.cells #[.int .i64 a0_0, .int .i64 a0_1, (.slice (some ad331) l0_2.length c0_2)] 31 (0, 0))) ∧ Aside0 (w'.heap[gb332]? = some (.cells #[.int .i64 ((rd_T87 l0_2 x24_2).f0), .int .i64 ((rd_T87 l0_2 x24_2).f1), .int .i64 ((rd_T87 l0_2 x24_2).f2)] 87 (0, 0))) ∧ Aside0 (Below w.heap.size w w'))
       case atStart => exact ⟨(x5_2), (((rd_T87 l0_2 x24_2).f0)), (by first | rfl | (simp; done) | (simp [*]; done)), H', ⟨Nat.le_refl _⟩, ⟨by (with_reducible repeat (first | apply Kd.S_alloc | apply Kd.S_drewN | apply Kd.S_drew)); exact HO_3.out⟩, ⟨by (with_reducible repeat (first | apply Kd.R_alloc | apply Kd.R_drewN | apply Kd.R_drew)); exact HO_5.out⟩, ⟨by (with_reducible repeat (first | refine kn_ ?_ _ | refine kd_ ?_ | refine ka_ ?_ _)); exact BK324.out⟩, ⟨by (with_reducible repeat (first | refine kn_ ?_ _ | refine kd_ ?_ | refine ka_ ?_ _)); exact BK332.out⟩, ⟨by repeat (first | (with_reducible first | exact HB.out | apply ba_ | apply bn_ | apply bd_ | refine below_setA ?_ (by assumption)) | exact HB.out)⟩⟩
       case round =>
        clear H'
        try clear c1; try clear c2; try clear p2; try clear p3
        try clear q3
        try clear hx3; try clear c6; try clear c6b0; try clear p6; try clear c7; try clear c7b0; try clear c7b1; try clear c8; try clear c8b0; try clear c8b1; try clear c10; try clear c13; try clear c13b0; try clear c14; try clear c14b0; try clear c15; try clear c15b0; try clear c18; try clear c20; try clear c20b0; try clear c20b1; try clear c21; try clear c23; try clear c25; try clear c26; try clear hcz12_0 hcz12_1 hcz12_2; try clear hcz19_0 hcz19_1 hcz19_2; try clear hcz22_0 hcz22_1 hcz22_2; try clear hcz24_0 hcz24_1 hcz24_2; try clear hcz27_0 hcz27_1 hcz27_2; try clear hcz5_0 hcz5_1 hcz5_2; try clear hcz9_0 hcz9_1 hcz9_2; try clear hfz12_0 hfz12_1 hfz12_2; try clear hfz19_0 hfz19_1 hfz19_2; try clear hfz22_0 hfz22_1 hfz22_2; try clear hfz24_0 hfz24_1 hfz24_2; try clear hfz27_0 hfz27_1 hfz27_2; try clear hfz5_0 hfz5_1 hfz5_2; try clear hfz9_0 hfz9_1 hfz9_2; try clear hx331_0; try clear hx331_1; try clear hx331_2; try clear p2; try clear p3; try clear p331; try clear p6
        try clear q3
        try clear q331
        obtain ⟨x5_4, x8_4, rfl, HA, HK4, HO_3, HO_5, BK324, BK332, HB⟩ := hrel
        rcases gk with _ | k4
        · exact absurd HA.out (by simp [impl_Cut_linesAcross.l2])
        have H := HA.out
        clear HA
        simp only [impl_Cut_linesAcross.l2] at H
        by_cases c28 : x8_4 < (wrap64 (((rd_T87 l0_2 x24_2).f0) + ((rd_T87 l0_2 x24_2).f2)))
        ·
         rw [if_pos c28] at H
         have c28b0 : decide (x8_4 < (wrap64 (((rd_T87 l0_2 x24_2).f0) + ((rd_T87 l0_2 x24_2).f2)))) = true := decide_eq_true c28
         clear c28
         by_cases c29 : 0 ≤ x8_4
         case neg => rw [if_neg c29] at H; exact absurd H (by simp)
         rw [if_pos c29] at H
         have c29b0 : decide (0 ≤ x8_4) = true := decide_eq_true c29
         clear c29
         by_cases c30 : x8_4 < (x5_4.length : Int)
         case neg => rw [if_neg c30] at H; exact absurd H (by simp)
         rw [if_pos c30] at H
         have c30b0 : decide (x8_4 < (x5_4.length : Int)) = true := decide_eq_true c30
         clear c30
         obtain ⟨y333, hy333⟩ : ∃ y_ : List Bool, y_ = (x5_4.set (x8_4 : Int).toNat true) := ⟨_, rfl⟩
         replace H : (impl_Cut_linesAcross.l2 k4 x3_1 x15_1 y333 (wrap64 (x8_4 + 1)) (wrap64 (a0_1 + 1)) x15_1 l0_2 (l0_2.length : Int) x24_2 a0_0 a0_1 l0_2 ((rd_T87 l0_2 x24_2).f0) ((rd_T87 l0_2 x24_2).f1) ((rd_T87 l0_2 x24_2).f2)) = some r := by first | (rw [hy333]; with_reducible exact H) | (have H2_ := (Option.bind_some _ _).symm.trans H; rw [hy333]; with_reducible exact H2_) | (have H2_ := (Option.bind_some _ _).symm.trans H; with_reducible exact H2_) | with_reducible exact H | (rw [hy333]; exact H) | exact H
         have Ny333 := As_ hy333
         clear hy333
         have H' := As_ H
         clear H
         have hnb32 := NB332_324.out
         have hnc32 := NB324_332.out
         obtain ⟨hcz33_0, hcz33_1, hcz33_2⟩ := c3_ (w := wr) BK332.out
         obtain ⟨hfz33_0, hfz33_1, hfz33_2⟩ := z3_ BK332.out
         have p31 : 0 ≤ (x8_4 : Int) := of_decide_eq_true (by first | (with_reducible assumption) | assumption)
         have q31 : (x8_4 : Int) < ((x5_4.length : Int) : Int) := of_decide_eq_true (by first | (with_reducible assumption) | assumption)
         obtain ⟨go31, co31, eo31, gb31, gl31, cl31, HG31⟩ := Kd.R_form HO_5.out (by omega)
         (first | cases eo31 | (injection eo31 with ea_ en_ ec_; (first | subst ea_ | (injection ea_ with ea_; subst ea_)); subst ec_; clear en_))
         have GB31 := As_ gb31
         have GG31 := As_ HG31
         clear gb31 gl31 HG31
         obtain ⟨hx31_0, hf31_0⟩ := Kd.R_celln false HO_5.out (x8_4 : Int) p31 q31
         replace p31 := eq_true p31
         replace q31 := eq_true q31
         have HP34 := Kd.R_putg HO_5.out (x8_4 : Int) true
         go_wp2_with (first | ((with_reducible refine gate_store (t := 4) (p := 54) rfl ?_); refine store_event (t := 4) (p := 54) (v := ?vo_w35) (w1 := (wr.setCell ⟨go31, (x8_4 : Int).toNat, none⟩ (.bool true))) ?hg ?ho ?hn ?hr ?_; (case ho => rfl); (case hg => rfl); (case hn => rfl); (case hr => first | (go_simp; done) | (go_simp; rfl)); intro w35 hw; have hg : wr.grownBy w35 (some go31) := (by rw [hw]; exact HP34.2); have hp_ : Kd.R Kd.bool 4 w35 w.heap.size (fun _ => True) (.slice (some ⟨go31, 0, none⟩) x5_4.length co31) y333 := (by rw [hw, Ny333.out]; exact HP34.1); clear HP34; replace HO_3 := As_ (Kd.S_over' (v := (.slice (some ⟨go31, 0, none⟩) x5_4.length co31)) (by (with_reducible repeat (first | apply Kd.S_alloc | apply Kd.S_drewN | apply Kd.S_drew)); exact HO_3.out) (Kd.R_typed HO_5.out) (by decide) hg); replace BK324 := As_ (blk_grown (g := gb324) (o := .cells #[.int .i64 a0_0, .int .i64 a0_1, .slice (some ad331) l0_2.length c0_2] 31 (0, 0)) BK324.out hg (Kd.R_ne HO_5.out BK324.out (by decide))); replace BK332 := As_ (blk_grown (g := gb332) (o := .cells #[.int .i64 ((rd_T87 l0_2 x24_2).f0), .int .i64 ((rd_T87 l0_2 x24_2).f1), .int .i64 ((rd_T87 l0_2 x24_2).f2)] 87 (0, 0)) BK332.out hg (Kd.R_ne HO_5.out BK332.out (by decide))); replace HO_5 := As_ (hp_); replace HB := As_ ((by rw [hw]; exact below_set (HB.out) GB31.out : Below w.heap.size w w35)); clear hg hw hp_))
         go_roundg k4
         case measure => have := HK1.out; have := HK2.out; have := HJ15.out; have := HK4.out; omega
         case rel => exact ⟨(y333), (wrap64 (x8_4 + 1)), (by first | rfl | (simp; done) | (simp [*]; done)), H', ⟨by have := HK1.out; have := HK2.out; have := HJ15.out; have := HK4.out; omega⟩, ⟨by (with_reducible repeat (first | apply Kd.S_alloc | apply Kd.S_drewN | apply Kd.S_drew)); exact HO_3.out⟩, ⟨by (with_reducible repeat (first | apply Kd.R_alloc | apply Kd.R_drewN | apply Kd.R_drew)); exact HO_5.out⟩, ⟨by (with_reducible repeat (first | refine kn_ ?_ _ | refine kd_ ?_ | refine ka_ ?_ _)); exact BK324.out⟩, ⟨by (with_reducible repeat (first | refine kn_ ?_ _ | refine kd_ ?_ | refine ka_ ?_ _)); exact BK332.out⟩, ⟨by repeat (first | (with_reducible first | exact HB.out | apply ba_ | apply bn_ | apply bd_ | refine below_setA ?_ (by assumption)) | exact HB.out)⟩⟩
        ·
         rw [if_neg c28] at H
         have c28b0 : decide (x8_4 < (wrap64 (((rd_T87 l0_2 x24_2).f0) + ((rd_T87 l0_2 x24_2).f2)))) = false := decide_eq_false c28
         clear c28
         have H' := As_ H
         clear H
         have hnb36 := NB332_324.out
         have hnc36 := NB324_332.out
         obtain ⟨hcz37_0, hcz37_1, hcz37_2⟩ := c3_ (w := wr) BK332.out
         obtain ⟨hfz37_0, hfz37_1, hfz37_2⟩ := z3_ BK332.out
         go_wp2
         go_roundg k4
         case measure => have := HK1.out; have := HK2.out; have := HJ15.out; have := HK4.out; omega
         case rel => exact ⟨(x5_4), (wrap64 (x24_2 + 1)), (by first | rfl | (simp; done) | (simp [*]; done)), H', ⟨by have := HK1.out; have := HK2.out; have := HJ15.out; have := HK4.out; omega⟩, ⟨by (with_reducible repeat (first | apply Kd.S_alloc | apply Kd.S_drewN | apply Kd.S_drew)); exact HO_3.out⟩, ⟨by (with_reducible repeat (first | apply Kd.R_alloc | apply Kd.R_drewN | apply Kd.R_drew)); exact HO_5.out⟩, ⟨by (with_reducible repeat (first | refine kn_ ?_ _ | refine kd_ ?_ | refine ka_ ?_ _)); exact BK324.out⟩, ⟨by repeat (first | (with_reducible first | exact HB.out | apply ba_ | apply bn_ | apply bd_ | refine below_setA ?_ (by assumption)) | exact HB.out)⟩⟩
      ·
       replace c25 := Bool.eq_false_iff.mpr c25
       subst c25
       have H1 : (impl_Cut_linesAcross.l1 kj15 x3_1 x15_1 x5_2 (wrap64 (a0_1 + 1)) x15_1 l0_2 (l0_2.length : Int) (wrap64 (x24_2 + 1)) a0_0 a0_1 l0_2) = some r := by rw [if_neg (show ¬ (false = true) by decide)] at H; exact H
       clear H
       have H := H1
       clear H1
       have H' := As_ H
       clear H
       go_wp2
       go_roundg kj15
       case measure => have := HK1.out; have := HK2.out; have := HJ15.out; omega
       case rel => exact ⟨(x5_2), (wrap64 (x24_2 + 1)), (by first | rfl | (simp; done) | (simp [*]; done)), H', ⟨by have := HK1.out; have := HK2.out; have := HJ15.out; omega⟩, ⟨by (with_reducible repeat (first | apply Kd.S_alloc | apply Kd.S_drewN | apply Kd.S_drew)); exact HO_3.out⟩, ⟨by (with_reducible repeat (first | apply Kd.R_alloc | apply Kd.R_drewN | apply Kd.R_drew)); exact HO_5.out⟩, ⟨by (with_reducible repeat (first | refine kn_ ?_ _ | refine kd_ ?_ | refine ka_ ?_ _)); exact BK324.out⟩, ⟨by repeat (first | (with_reducible first | exact HB.out | apply ba_ | apply bn_ | apply bd_ | refine below_setA ?_ (by assumption)) | exact HB.out)⟩⟩
    ·
     rw [if_neg c13] at H
     have c13b0 : decide (x24_2 < (l0_2.length : Int)) = false := decide_eq_false c13
     clear c13
     have H' := As_ H
     clear H
     obtain ⟨Ao38, co38, eo38⟩ := Kd.R_slice HO_5.out
     subst eo38
     go_wp2
     go_loopg [3, 58] k2 (fun kq v3 v58 w' => ∃ (x3_3 : List (List Int)) (x58_3 : Int), v58 = .int .i64 x58_3 ∧ Aside0 (impl_Cut_linesAcross.l3 kq x3_3 x15_1 x5_2 (wrap64 (a0_1 + 1)) x15_1 x5_2 (x5_2.length : Int) x58_3 a0_0 a0_1 l0_2 = some r) ∧ Aside0 (kq ≤ k2) ∧ Aside0 (Kd.S (Kd.slice 3 (Kd.int .i64)) 26 w' w.heap.size (fun _ => True) v3 x3_3) ∧ Aside0 (Kd.R Kd.bool 4 w' w.heap.size (fun _ => True) (.slice Ao38 x5_2.length co38) x5_2) ∧ Aside0 (Kd.R Kd.bool 4 w' w.heap.size (fun _ => True) (.slice Ao38 x5_2.length co38) x5_2) ∧ Aside0 (w'.heap[gb324]? = some (.cells #[.int .i64 a0_0, .int .i64 a0_1, (.slice A0_2 l0_2.length c0_2)] 31 (0, 0))) ∧ Aside0 (Below w.heap.size w w'))
     case atStart => exact ⟨(x3_1), (0), (by first | rfl | (simp; done) | (simp [*]; done)), H', ⟨Nat.le_refl _⟩, ⟨by (with_reducible repeat (first | apply Kd.S_alloc | apply Kd.S_drewN | apply Kd.S_drew)); exact HO_3.out⟩, ⟨by (with_reducible repeat (first | apply Kd.R_alloc | apply Kd.R_drewN | apply Kd.R_drew)); exact HO_5.out⟩, ⟨by (with_reducible repeat (first | apply Kd.R_alloc | apply Kd.R_drewN | apply Kd.R_drew)); exact HO_5.out⟩, ⟨by (with_reducible repeat (first | refine kn_ ?_ _ | refine kd_ ?_ | refine ka_ ?_ _)); exact BK324.out⟩, ⟨by repeat (first | (with_reducible first | exact HB.out | apply ba_ | apply bn_ | apply bd_ | refine bs_ ?_ GE324.out) | exact HB.out)⟩⟩
     case round =>
      clear H'
      try clear c1; try clear c2; try clear p2; try clear c3; try clear p3
      try clear q3
      try clear hx3; try clear hf3; try clear c6; try clear c6b0; try clear p6; try clear c7; try clear c7b0; try clear c7b1; try clear c8; try clear c8b0; try clear c8b1; try clear c10; try clear c13; try clear c13b0; try clear c14; try clear c14b0; try clear c15; try clear c15b0; try clear c18; try clear c20; try clear c20b0; try clear c20b1; try clear c21; try clear c23; try clear c25; try clear c26; try clear c28; try clear c28b0; try clear c29; try clear c29b0; try clear c30; try clear c30b0; try clear p31
      try clear q31
      try clear hx31; try clear hf31; try clear c32; try clear p33
      try clear q33
      try clear hx33; try clear c36; try clear hcz12_0 hcz12_1 hcz12_2; try clear hcz19_0 hcz19_1 hcz19_2; try clear hcz22_0 hcz22_1 hcz22_2; try clear hcz24_0 hcz24_1 hcz24_2; try clear hcz27_0 hcz27_1 hcz27_2; try clear hcz33_0 hcz33_1 hcz33_2; try clear hcz37_0 hcz37_1 hcz37_2; try clear hcz5_0 hcz5_1 hcz5_2; try clear hcz9_0 hcz9_1 hcz9_2; try clear hfz12_0 hfz12_1 hfz12_2; try clear hfz19_0 hfz19_1 hfz19_2; try clear hfz22_0 hfz22_1 hfz22_2; try clear hfz24_0 hfz24_1 hfz24_2; try clear hfz27_0 hfz27_1 hfz27_2; try clear hfz33_0 hfz33_1 hfz33_2; try clear hfz37_0 hfz37_1 hfz37_2; try clear hfz5_0 hfz5_1 hfz5_2; try clear hfz9_0 hfz9_1 hfz9_2; try clear hx31_0; try clear hx331_0; try clear hx331_1; try clear hx331_2; try clear p2; try clear p3; try clear p31; try clear p331; try clear p6
      try clear q3
      try clear q31
      try clear q331
      obtain ⟨x3_3, x58_3, rfl, HA, HK3, HO_3, HO_5, HO_56, BK324, HB⟩ := hrel
      rcases gk with _ | k3
      · exact absurd HA.out (by simp [impl_Cut_linesAcross.l3])
      have H := HA.out
      clear HA
      simp only [impl_Cut_linesAcross.l3] at H
      by_cases c39 : x58_3 < (x5_2.length : Int)
      ·
       rw [if_pos c39] at H
       have c39b0 : decide (x58_3 < (x5_2.length : Int)) = true := decide_eq_true c39
       clear c39
       by_cases c40 : 0 ≤ x58_3
       case neg => rw [if_neg c40] at H; exact absurd H (by simp)
       rw [if_pos c40] at H
       have c40b0 : decide (0 ≤ x58_3) = true := decide_eq_true c40
       clear c40
       by_cases c41 : x58_3 < (x5_2.length : Int)
       case neg => rw [if_neg c41] at H; exact absurd H (by simp)
       rw [if_pos c41] at H
       have c41b0 : decide (x58_3 < (x5_2.length : Int)) = true := decide_eq_true c41
       clear c41
       obtain ⟨bq42, hbq42⟩ : ∃ b_ : Bool, b_ = (rdOf false x5_2 x58_3) := ⟨_, rfl⟩
       replace H : (if bq42 = true then (if x58_3 > 0 then (if 0 ≤ (wrap64 (x58_3 - 1)) then (if (wrap64 (x58_3 - 1)) < (x5_2.length : Int) then (if rdOf false x5_2 (wrap64 (x58_3 - 1)) = true then (if 0 ≤ (wrap64 ((x3_3.length : Int) - 1)) then (if (wrap64 ((x3_3.length : Int) - 1)) < (x3_3.length : Int) then (if 2 < ((rd_L6 x3_3 (wrap64 ((x3_3.length : Int) - 1))).length : Int) then (impl_Cut_linesAcross.l3 k3 (x3_3.set ((wrap64 ((x3_3.length : Int) - 1)) : Int).toNat ((rd_L6 x3_3 (wrap64 ((x3_3.length : Int) - 1))).set (2 : Int).toNat (wrap64 (x58_3 + 1)))) x15_1 x5_2 (wrap64 (a0_1 + 1)) x15_1 x5_2 (x5_2.length : Int) (wrap64 (x58_3 + 1)) a0_0 a0_1 l0_2) else (none)) else (none)) else (none)) else (if x3_3.length < 5864062014805 then (impl_Cut_linesAcross.l3 k3 (x3_3 ++ [(([x15_1, x58_3, wrap64 (x58_3 + 1)] : List Int))]) x15_1 x5_2 (wrap64 (a0_1 + 1)) x15_1 x5_2 (x5_2.length : Int) (wrap64 (x58_3 + 1)) a0_0 a0_1 l0_2) else (none))) else (none)) else (none)) else (if x3_3.length < 5864062014805 then (impl_Cut_linesAcross.l3 k3 (x3_3 ++ [(([x15_1, x58_3, wrap64 (x58_3 + 1)] : List Int))]) x15_1 x5_2 (wrap64 (a0_1 + 1)) x15_1 x5_2 (x5_2.length : Int) (wrap64 (x58_3 + 1)) a0_0 a0_1 l0_2) else (none))) else (impl_Cut_linesAcross.l3 k3 x3_3 x15_1 x5_2 (wrap64 (a0_1 + 1)) x15_1 x5_2 (x5_2.length : Int) (wrap64 (x58_3 + 1)) a0_0 a0_1 l0_2)) = some r := by rw [← hbq42] at H; exact H
       have Nbq42 := As_ hbq42
       clear hbq42
       by_cases c43 : bq42 = true
       ·
        subst c43
        have H1 : (if x58_3 > 0 then (if 0 ≤ (wrap64 (x58_3 - 1)) then (if (wrap64 (x58_3 - 1)) < (x5_2.length : Int) then (if rdOf false x5_2 (wrap64 (x58_3 - 1)) = true then (if 0 ≤ (wrap64 ((x3_3.length : Int) - 1)) then (if (wrap64 ((x3_3.length : Int) - 1)) < (x3_3.length : Int) then (if 2 < ((rd_L6 x3_3 (wrap64 ((x3_3.length : Int) - 1))).length : Int) then (impl_Cut_linesAcross.l3 k3 (x3_3.set ((wrap64 ((x3_3.length : Int) - 1)) : Int).toNat ((rd_L6 x3_3 (wrap64 ((x3_3.length : Int) - 1))).set (2 : Int).toNat (wrap64 (x58_3 + 1)))) x15_1 x5_2 (wrap64 (a0_1 + 1)) x15_1 x5_2 (x5_2.length : Int) (wrap64 (x58_3 + 1)) a0_0 a0_1 l0_2) else (none)) else (none)) else (none)) else (if x3_3.length < 5864062014805 then (impl_Cut_linesAcross.l3 k3 (x3_3 ++ [(([x15_1, x58_3, wrap64 (x58_3 + 1)] : List Int))]) x15_1 x5_2 (wrap64 (a0_1 + 1)) x15_1 x5_2 (x5_2.length : Int) (wrap64 (x58_3 + 1)) a0_0 a0_1 l0_2) else (none))) else (none)) else (none)) else (if x3_3.length < 5864062014805 then (impl_Cut_linesAcross.l3 k3 (x3_3 ++ [(([x15_1, x58_3, wrap64 (x58_3 + 1)] : List Int))]) x15_1 x5_2 (wrap64 (a0_1 + 1)) x15_1 x5_2 (x5_2.length : Int) (wrap64 (x58_3 + 1)) a0_0 a0_1 l0_2) else (none))) = some r := by rw [if_pos rfl] at H; exact H
        clear H
        have H := H1
        clear H1
        by_cases c44 : x58_3 > 0
        ·
         rw [if_pos c44] at H
         have c44b0 : decide (0 < x58_3) = true := decide_eq_true c44
         clear c44
         obtain ⟨ji45, hji45⟩ : ∃ j_ : Int, (wrap64 (x58_3 - 1)) = j_ := ⟨_, rfl⟩
         replace H : (if 0 ≤ (ji45) then (if (ji45) < (x5_2.length : Int) then (if rdOf false x5_2 (ji45) = true then (if 0 ≤ (wrap64 ((x3_3.length : Int) - 1)) then (if (wrap64 ((x3_3.length : Int) - 1)) < (x3_3.length : Int) then (if 2 < ((rd_L6 x3_3 (wrap64 ((x3_3.length : Int) - 1))).length : Int) then (impl_Cut_linesAcross.l3 k3 (x3_3.set ((wrap64 ((x3_3.length : Int) - 1)) : Int).toNat ((rd_L6 x3_3 (wrap64 ((x3_3.length : Int) - 1))).set (2 : Int).toNat (wrap64 (x58_3 + 1)))) x15_1 x5_2 (wrap64 (a0_1 + 1)) x15_1 x5_2 (x5_2.length : Int) (wrap64 (x58_3 + 1)) a0_0 a0_1 l0_2) else (none)) else (none)) else (none)) else (if x3_3.length < 5864062014805 then (impl_Cut_linesAcross.l3 k3 (x3_3 ++ [(([x15_1, x58_3, wrap64 (x58_3 + 1)] : List Int))]) x15_1 x5_2 (wrap64 (a0_1 + 1)) x15_1 x5_2 (x5_2.length : Int) (wrap64 (x58_3 + 1)) a0_0 a0_1 l0_2) else (none))) else (none)) else (none)) = some r := by first | (rw [hji45] at H; exact H) | (simp only [hji45] at H ⊢; exact H)
         have hji45w : (IntKind.i64.wrap (x58_3 - 1)) = ji45 := (i64_w _).trans hji45
         by_cases c46 : 0 ≤ (ji45)
         case neg => rw [if_neg c46] at H; exact absurd H (by simp)
         rw [if_pos c46] at H
         have c46b0 : decide (0 ≤ (ji45)) = true := decide_eq_true c46
         clear c46
         by_cases c47 : (ji45) < (x5_2.length : Int)
         case neg => rw [if_neg c47] at H; exact absurd H (by simp)
         rw [if_pos c47] at H
         have c47b0 : decide ((ji45) < (x5_2.length : Int)) = true := decide_eq_true c47
         clear c47
         obtain ⟨bq48, hbq48⟩ : ∃ b_ : Bool, b_ = (rdOf false x5_2 (ji45)) := ⟨_, rfl⟩
         replace H : (if bq48 = true then (if 0 ≤ (wrap64 ((x3_3.length : Int) - 1)) then (if (wrap64 ((x3_3.length : Int) - 1)) < (x3_3.length : Int) then (if 2 < ((rd_L6 x3_3 (wrap64 ((x3_3.length : Int) - 1))).length : Int) then (impl_Cut_linesAcross.l3 k3 (x3_3.set ((wrap64 ((x3_3.length : Int) - 1)) : Int).toNat ((rd_L6 x3_3 (wrap64 ((x3_3.length : Int) - 1))).set (2 : Int).toNat (wrap64 (x58_3 + 1)))) x15_1 x5_2 (wrap64 (a0_1 + 1)) x15_1 x5_2 (x5_2.length : Int) (wrap64 (x58_3 + 1)) a0_0 a0_1 l0_2) else (none)) else (none)) else (none)) else (if x3_3.length < 5864062014805 then (impl_Cut_linesAcross.l3 k3 (x3_3 ++ [(([x15_1, x58_3, wrap64 (x58_3 + 1)] : List Int))]) x15_1 x5_2 (wrap64 (a0_1 + 1)) x15_1 x5_2 (x5_2.length : Int) (wrap64 (x58_3 + 1)) a0_0 a0_1 l0_2) else (none))) = some r := by rw [← hbq48] at H; exact H
         have Nbq48 := As_ hbq48
         clear hbq48
         by_cases c49 : bq48 = true
         ·
          subst c49
          have H1 : (if 0 ≤ (wrap64 ((x3_3.length : Int) - 1)) then (if (wrap64 ((x3_3.length : Int) - 1)) < (x3_3.length : Int) then (if 2 < ((rd_L6 x3_3 (wrap64 ((x3_3.length : Int) - 1))).length : Int) then (impl_Cut_linesAcross.l3 k3 (x3_3.set ((wrap64 ((x3_3.length : Int) - 1)) : Int).toNat ((rd_L6 x3_3 (wrap64 ((x3_3.length : Int) - 1))).set (2 : Int).toNat (wrap64 (x58_3 + 1)))) x15_1 x5_2 (wrap64 (a0_1 + 1)) x15_1 x5_2 (x5_2.length : Int) (wrap64 (x58_3 + 1)) a0_0 a0_1 l0_2) else (none)) else (none)) else (none)) = some r := by rw [if_pos rfl] at H; exact H
          clear H
          have H := H1
          clear H1
          obtain ⟨ji50, hji50⟩ : ∃ j_ : Int, (wrap64 ((x3_3.length : Int) - 1)) = j_ := ⟨_, rfl⟩
          replace H : (if 0 ≤ (ji50) then (if (ji50) < (x3_3.length : Int) then (if 2 < ((rd_L6 x3_3 (ji50)).length : Int) then (impl_Cut_linesAcross.l3 k3 (x3_3.set ((ji50) : Int).toNat ((rd_L6 x3_3 (ji50)).set (2 : Int).toNat (wrap64 (x58_3 + 1)))) x15_1 x5_2 (wrap64 (a0_1 + 1)) x15_1 x5_2 (x5_2.length : Int) (wrap64 (x58_3 + 1)) a0_0 a0_1 l0_2) else (none)) else (none)) else (none)) = some r := by first | (rw [hji50] at H; exact H) | (simp only [hji50] at H ⊢; exact H)
          have hji50w : (IntKind.i64.wrap ((x3_3.length : Int) - 1)) = ji50 := (i64_w _).trans hji50
          by_cases c51 : 0 ≤ (ji50)
          case neg => rw [if_neg c51] at H; exact absurd H (by simp)
          rw [if_pos c51] at H
          have c51b0 : decide (0 ≤ (ji50)) = true := decide_eq_true c51
          clear c51
          by_cases c52 : (ji50) < (x3_3.length : Int)
          case neg => rw [if_neg c52] at H; exact absurd H (by simp)
          rw [if_pos c52] at H
          have c52b0 : decide ((ji50) < (x3_3.length : Int)) = true := decide_eq_true c52
          clear c52
          by_cases c53 : 2 < ((rd_L6 x3_3 (ji50)).length : Int)
          case neg => rw [if_neg c53] at H; exact absurd H (by simp)
          rw [if_pos c53] at H
          have c53b0 : decide (2 < ((rd_L6 x3_3 (ji50)).length : Int)) = true := decide_eq_true c53
          have c53b1 : decide (2 < (rd_L6 x3_3 (ji50)).length) = true := decide_eq_true (by omega)
          clear c53
          obtain ⟨y337, hy337⟩ : ∃ y_ : List Int, y_ = ((rd_L6 x3_3 (ji50)).set (2 : Int).toNat (wrap64 (x58_3 + 1))) := ⟨_, rfl⟩
          replace H : (impl_Cut_linesAcross.l3 k3 (x3_3.set ((ji50) : Int).toNat y337) x15_1 x5_2 (wrap64 (a0_1 + 1)) x15_1 x5_2 (x5_2.length : Int) (wrap64 (x58_3 + 1)) a0_0 a0_1 l0_2) = some r := by first | (rw [hy337]; with_reducible exact H) | (have H2_ := (Option.bind_some _ _).symm.trans H; rw [hy337]; with_reducible exact H2_) | (have H2_ := (Option.bind_some _ _).symm.trans H; with_reducible exact H2_) | with_reducible exact H | (rw [hy337]; exact H) | exact H
          have Ny337 := As_ hy337
          clear hy337
          obtain ⟨y339, hy339⟩ : ∃ y_ : List (List Int), y_ = (x3_3.set ((ji50) : Int).toNat y337) := ⟨_, rfl⟩
          replace H : (impl_Cut_linesAcross.l3 k3 y339 x15_1 x5_2 (wrap64 (a0_1 + 1)) x15_1 x5_2 (x5_2.length : Int) (wrap64 (x58_3 + 1)) a0_0 a0_1 l0_2) = some r := by first | (rw [hy339]; with_reducible exact H) | (have H2_ := (Option.bind_some _ _).symm.trans H; rw [hy339]; with_reducible exact H2_) | (have H2_ := (Option.bind_some _ _).symm.trans H; with_reducible exact H2_) | with_reducible exact H | (rw [hy339]; exact H) | exact H
          have Ny339 := As_ hy339
          clear hy339
          have H' := As_ H
          clear H
          have p334 : 0 ≤ (x58_3 : Int) := of_decide_eq_true (by first | (with_reducible assumption) | assumption)
          have q334 : x58_3 < (x5_2.length : Int) := of_decide_eq_true (by first | (with_reducible assumption) | assumption)
          obtain ⟨ad334, e334, hx334_0⟩ := Kd.at_bool (Kd.R_reads' HO_56.out).2.2 x58_3 p334 q334
          (try rw [← Nbq42.out] at hx334_0)
          (try rw [← Nbq48.out] at hx334_0)
          cases e334
          replace p334 := eq_true p334
          replace q334 := eq_true q334
          have p335 : 0 ≤ ((ji45) : Int) := of_decide_eq_true (by first | (with_reducible assumption) | assumption)
          have q335 : (ji45) < (x5_2.length : Int) := of_decide_eq_true (by first | (with_reducible assumption) | assumption)
          obtain ⟨ad335, e335, hx335_0⟩ := Kd.at_bool (Kd.R_reads' HO_5.out).2.2 (ji45) p335 q335
          (try rw [← Nbq42.out] at hx335_0)
          (try rw [← Nbq48.out] at hx335_0)
          obtain rfl : ad334 = ad335 := (by injection e335)
          replace p335 := eq_true p335
          replace q335 := eq_true q335
          obtain ⟨Ao55, co55, eo55⟩ := Kd.S_slice HO_3.out
          subst eo55
          have p336 : 0 ≤ ((ji50) : Int) := of_decide_eq_true (by first | (with_reducible assumption) | assumption)
          have q336 : (ji50) < (x3_3.length : Int) := of_decide_eq_true (by first | (with_reducible assumption) | assumption)
          obtain ⟨ad336, A336_0, c336_0, e336, hx336_0, hl336_0, hi336_0⟩ := at_L6 (Kd.S_reads' HO_3.out).2.2 (ji50) p336 q336
          cases e336
          obtain ⟨ce336, hce336, hMe336, hcc336⟩ := Kd.S_get HO_3.out [] (ji50) p336 (by first | exact q336 | exact of_decide_eq_true (by first | (with_reducible assumption) | assumption) | (have e_ := (Kd.S_reads' HO_3.out).1; omega))
          obtain ⟨ve336_0, rfl, ge336_0⟩ := hMe336
          have hv336_0 := hcc336 0 _ rfl
          rw [Nat.add_zero, show ((Kd.slice 3 (Kd.int .i64))).sz = 1 from rfl, Nat.mul_one] at hv336_0
          replace hv336_0 := Option.some.inj (hv336_0.symm.trans hx336_0)
          rw [hv336_0] at ge336_0
          have HL336_0 := As_ (show Kd.R (Kd.int .i64) 3 _ _ _ _ (rd_L6 x3_3 (ji50)) from ge336_0)
          clear hv336_0 ge336_0
          have HX336_0 := As_ hx336_0
          clear hcc336 hce336
          have HR336_0 := As_ hi336_0
          have HC336_0 := As_ hl336_0
          clear hi336_0 hl336_0
          replace p336 := eq_true p336
          replace q336 := eq_true q336
          have p54 : 0 ≤ (2 : Int) := (by omega)
          have q54 : (2 : Int) < (((rd_L6 x3_3 (ji50)).length : Int) : Int) := of_decide_eq_true (by first | (with_reducible assumption) | assumption)
          have qi54 : (2 < (rd_L6 x3_3 (ji50)).length) = True := eq_true (by omega)
          obtain ⟨go54, co54, eo54, gb54, gl54, cl54, HG54⟩ := Kd.R_form HL336_0.out (by omega)
          (first | cases eo54 | (injection eo54 with ea_ en_ ec_; (first | subst ea_ | (injection ea_ with ea_; subst ea_)); subst ec_; clear en_))
          have GB54 := As_ gb54
          have GG54 := As_ HG54
          clear gb54 gl54 HG54
          obtain ⟨hx54_0, hf54_0⟩ := Kd.R_celln 0 HL336_0.out (2 : Int) p54 q54
          (try rw [show ((2 : Int)).toNat = 2 from rfl] at hx54_0)
          (try simp only [Nat.reduceMul, Nat.zero_mul, Nat.zero_add, Nat.reduceAdd] at hx54_0)
          (try rw [show ((2 : Int)).toNat = 2 from rfl] at hf54_0)
          (try simp only [Nat.reduceMul, Nat.zero_mul, Nat.zero_add, Nat.reduceAdd] at hf54_0)
          replace p54 := eq_true p54
          replace q54 := eq_true q54
          have hq56 : ((ji50) : Int) < (x3_3.length : Int) := (by have h_ : ((ji50) : Int) < ((x3_3.length : Int) : Int) := of_decide_eq_true (by first | (with_reducible assumption) | assumption); first | exact h_ | (have e_ := (Kd.S_reads' HO_3.out).1; omega) | simpa only [List.length_set, List.length_set] using h_)
          obtain ⟨oki56, ce56, hcl56, hM56, hcc56, hok56, hbk56⟩ := Kd.S_borrow HO_3.out [] ((ji50) : Int) (of_decide_eq_true (by first | (with_reducible assumption) | assumption)) hq56
          obtain ⟨ve56_0, rfl, ge56_0⟩ := hM56
          have hv56 := hcc56 0 _ rfl
          rw [Nat.add_zero, show ((Kd.slice 3 (Kd.int .i64))).sz = 1 from rfl, Nat.mul_one] at hv56
          replace hv56 := Option.some.inj (hv56.symm.trans HX336_0.out)
          subst hv56
          clear hcc56 hcl56
          replace ge56_0 := (show Kd.R (Kd.int .i64) 3 _ _ _ _ (rd_L6 x3_3 (ji50)) from ge56_0)
          have HP56 := Kd.R_putg ge56_0 (2 : Int) (wrap64 (x58_3 + 1))
          go_wp2_with (first | ((with_reducible refine gate_store (t := 3) (p := 92) rfl ?_); refine store_event (t := 3) (p := 92) (v := ?vo_w57) (w1 := (wr.setCell ⟨go54, 2, none⟩ (.int .i64 (wrap64 (x58_3 + 1))))) ?hg ?ho ?hn ?hr ?_; (case ho => rfl); (case hg => rfl); (case hn => rfl); (case hr => first | (go_simp; done) | (go_simp; rfl)); intro w57 hw; have hg : wr.grownBy w57 (some go54) := (by rw [hw]; exact HP56.2); have hz_ : Kd.R (Kd.int .i64) 3 w57 w.heap.size oki56 (.slice (some ⟨go54, 0, none⟩) (rd_L6 x3_3 (ji50)).length c336_0) y337 := (by rw [hw, Ny337.out]; exact HP56.1); have hp_ : Kd.S (Kd.slice 3 (Kd.int .i64)) 26 w57 w.heap.size (fun _ => True) (.slice (some ad336) x3_3.length co55) y339 := (by rw [Ny339.out]; exact hbk56 hg (fun k_ e_ => by injection e_ with e_; subst e_; exact ge56_0.1 _ rfl) (Kd.M_row hz_)); have hm_ := Kd.R_mono hz_ hok56; clear HP56 hbk56; have n0_ := As_ (hp_); have n1_ := As_ (Kd.R_over' (v := (.slice (some ⟨go54, 0, none⟩) (rd_L6 x3_3 (ji50)).length c336_0)) (by (with_reducible repeat (first | apply Kd.R_alloc | apply Kd.R_drewN | apply Kd.R_drew)); exact HO_5.out) (Kd.R_typed HL336_0.out) (by decide) hg); have n2_ := As_ (Kd.R_over' (v := (.slice (some ⟨go54, 0, none⟩) (rd_L6 x3_3 (ji50)).length c336_0)) (by (with_reducible repeat (first | apply Kd.R_alloc | apply Kd.R_drewN | apply Kd.R_drew)); exact HO_56.out) (Kd.R_typed HL336_0.out) (by decide) hg); have n3_ := As_ (blk_grown (g := gb324) (o := .cells #[.int .i64 a0_0, .int .i64 a0_1, .slice A0_2 l0_2.length c0_2] 31 (0, 0)) BK324.out hg (Kd.R_ne HL336_0.out BK324.out (by decide))); have n4_ := As_ ((by rw [hw]; exact below_set (HB.out) GB54.out : Below w.heap.size w w57)); have n5_ := As_ (hm_); have n6_ := As_ ((Kd.R_reads' hm_).2.1); clear HO_3; clear HO_5; clear HO_56; clear BK324; clear HB; clear HL336_0; have HO_3 := n0_; have HO_5 := n1_; have HO_56 := n2_; have BK324 := n3_; have HB := n4_; have HL352 := n5_; have HC338 := n6_; clear n0_ n1_ n2_ n3_ n4_ n5_ n6_; clear hg hw hp_ hz_ hm_ hok56))
          go_roundg k3
          case measure => have := HK1.out; have := HK2.out; have := HK3.out; omega
          case rel => exact ⟨(y339), (wrap64 (x58_3 + 1)), (by first | rfl | (simp; done) | (simp [*]; done)), H', ⟨by have := HK1.out; have := HK2.out; have := HK3.out; omega⟩, ⟨by (with_reducible repeat (first | apply Kd.S_alloc | apply Kd.S_drewN | apply Kd.S_drew)); exact HO_3.out⟩, ⟨by (with_reducible repeat (first | apply Kd.R_alloc | apply Kd.R_drewN | apply Kd.R_drew)); exact HO_5.out⟩, ⟨by (with_reducible repeat (first | apply Kd.R_alloc | apply Kd.R_drewN | apply Kd.R_drew)); exact HO_56.out⟩, ⟨by (with_reducible repeat (first | refine kn_ ?_ _ | refine kd_ ?_ | refine ka_ ?_ _)); exact BK324.out⟩, ⟨by repeat (first | (with_reducible first | exact HB.out | apply ba_ | apply bn_ | apply bd_ | refine bs_ ?_ GE324.out) | exact HB.out)⟩⟩
         ·
          replace c49 := Bool.eq_false_iff.mpr c49
          subst c49
          have H1 : (if x3_3.length < 5864062014805 then (impl_Cut_linesAcross.l3 k3 (x3_3 ++ [(([x15_1, x58_3, wrap64 (x58_3 + 1)] : List Int))]) x15_1 x5_2 (wrap64 (a0_1 + 1)) x15_1 x5_2 (x5_2.length : Int) (wrap64 (x58_3 + 1)) a0_0 a0_1 l0_2) else (none)) = some r := by rw [if_neg (show ¬ (false = true) by decide)] at H; exact H
          clear H
          have H := H1
          clear H1
          obtain ⟨y340, hy340⟩ : ∃ y_ : List Int, y_ = (([x15_1, x58_3, wrap64 (x58_3 + 1)] : List Int)) := ⟨_, rfl⟩
          replace H : (if x3_3.length < 5864062014805 then (impl_Cut_linesAcross.l3 k3 (x3_3 ++ [y340]) x15_1 x5_2 (wrap64 (a0_1 + 1)) x15_1 x5_2 (x5_2.length : Int) (wrap64 (x58_3 + 1)) a0_0 a0_1 l0_2) else (none)) = some r := by first | (rw [hy340]; with_reducible exact H) | (have H2_ := (Option.bind_some _ _).symm.trans H; rw [hy340]; with_reducible exact H2_) | (have H2_ := (Option.bind_some _ _).symm.trans H; with_reducible exact H2_) | with_reducible exact H | (rw [hy340]; exact H) | exact H
          have Ny340 := As_ hy340
          clear hy340
          by_cases c58 : x3_3.length < 5864062014805
          case neg => rw [if_neg c58] at H; exact absurd H (by simp)
          rw [if_pos c58] at H
          have LMc58 := As_ c58
          clear c58
          obtain ⟨y343, hy343⟩ : ∃ y_ : List (List Int), y_ = (x3_3 ++ [y340]) := ⟨_, rfl⟩
          replace H : (impl_Cut_linesAcross.l3 k3 y343 x15_1 x5_2 (wrap64 (a0_1 + 1)) x15_1 x5_2 (x5_2.length : Int) (wrap64 (x58_3 + 1)) a0_0 a0_1 l0_2) = some r := by first | (rw [hy343]; with_reducible exact H) | (have H2_ := (Option.bind_some _ _).symm.trans H; rw [hy343]; with_reducible exact H2_) | (have H2_ := (Option.bind_some _ _).symm.trans H; with_reducible exact H2_) | with_reducible exact H | (rw [hy343]; exact H) | exact H
          have Ny343 := As_ hy343
          clear hy343
          have H' := As_ H
          clear H
          have p334 : 0 ≤ (x58_3 : Int) := of_decide_eq_true (by first | (with_reducible assumption) | assumption)
          have q334 : x58_3 < (x5_2.length : Int) := of_decide_eq_true (by first | (with_reducible assumption) | assumption)
          obtain ⟨ad334, e334, hx334_0⟩ := Kd.at_bool (Kd.R_reads' HO_56.out).2.2 x58_3 p334 q334
          (try rw [← Nbq42.out] at hx334_0)
          (try rw [← Nbq48.out] at hx334_0)
          cases e334
          replace p334 := eq_true p334
          replace q334 := eq_true q334
          have p335 : 0 ≤ ((ji45) : Int) := of_decide_eq_true (by first | (with_reducible assumption) | assumption)
          have q335 : (ji45) < (x5_2.length : Int) := of_decide_eq_true (by first | (with_reducible assumption) | assumption)
          obtain ⟨ad335, e335, hx335_0⟩ := Kd.at_bool (Kd.R_reads' HO_5.out).2.2 (ji45) p335 q335
          (try rw [← Nbq42.out] at hx335_0)
          (try rw [← Nbq48.out] at hx335_0)
          obtain rfl : ad334 = ad335 := (by injection e335)
          replace p335 := eq_true p335
          replace q335 := eq_true q335
          go_wp2_with (first | ((with_reducible refine gate_dst (N := 68) rfl ?_); refine Kd.R_lit (Kd.int .i64) _ 3 ?hg (N := 68) ?hd (xs := ([x15_1, x58_3, wrap64 (x58_3 + 1)] : List Int)) (inner := [.int .i64 x15_1, .int .i64 x58_3, .int .i64 (wrap64 (x58_3 + 1))]) (ok := fun _ => True) (okp := fun _ => True) ?hr ?hp (fun _ hk => hk) trivial (Below.refl _ _) (Nat.le_refl _) (by simp) ?_; (case hd => rfl); (case hg => rfl); (case hr => first | (go_simp; done) | (go_simp; rfl)); (case hp => exact (Reps.one (show Kd.M (Kd.int .i64) _ _ _ x15_1 [.int .i64 x15_1] from rfl) (Reps.one (show Kd.M (Kd.int .i64) _ _ _ x58_3 [.int .i64 x58_3] from rfl) (Reps.one (show Kd.M (Kd.int .i64) _ _ _ (wrap64 (x58_3 + 1)) [.int .i64 (wrap64 (x58_3 + 1))] from rfl) (Reps.none _ _))))); intro v341 w59 ho60 hb hg_ hnew_; clear hg_ hnew_; (first | rw [← Ny340.out] at ho60 | (simp only [Int.reduceToNat] at ho60; rw [← Ny340.out] at ho60)); have HO342 := As_ (Kd.R_lower ho60 (below_size (by repeat (first | (with_reducible first | exact HB.out | apply ba_ | apply bn_ | apply bd_ | refine bs_ ?_ GE324.out) | exact HB.out)))); replace HO_3 := As_ (Kd.S_elder' (by (with_reducible repeat (first | apply Kd.S_alloc | apply Kd.S_drewN | apply Kd.S_drew)); exact HO_3.out) (Kd.R_base ho60) hb); replace HO_5 := As_ (Kd.R_below (by (with_reducible repeat (first | apply Kd.R_alloc | apply Kd.R_drewN | apply Kd.R_drew)); exact HO_5.out) hb); replace HO_56 := As_ (Kd.R_below (by (with_reducible repeat (first | apply Kd.R_alloc | apply Kd.R_drewN | apply Kd.R_drew)); exact HO_56.out) hb); replace BK324 := As_ (blk_b hb BK324.out); replace HB := As_ (below_step (by repeat (first | (with_reducible first | exact HB.out | apply ba_ | apply bn_ | apply bd_ | refine bs_ ?_ GE324.out) | exact HB.out)) hb); clear hb ho60; obtain ⟨Ao62, co62, eo62⟩ := Kd.R_slice HO342.out; subst eo62) | ((with_reducible refine gate_builtin (b := .append) (xs := #[.tmp 63, .tmp 69]) rfl ?_); at_builtin; refine Kd.S_append (Kd.slice 3 (Kd.int .i64)) (w0 := w) w.heap.size rfl (.tmp 63) (.tmp 69) 98 26 (.slice none 0 0) 24 rfl Try.underlying98 info26 rfl (by decide) (by omega) u3 x3_3 y340 [.slice Ao62 y340.length co62] (fun _ => True) (fun k_ => some k_ = (.slice Ao62 y340.length co62 : Value).ownBlock) rfl rfl ?aP (fun k_ hk_ => ((Kd.R_mono (ok' := fun k_ => ((fun _ => True)) k_ ∧ some k_ ≠ (u3 : Value).ownBlock) (Kd.R_apart' (HO342.out) (Kd.S_typed HO_3.out) (by decide)) (fun k_ hk => ⟨trivial, hk.2⟩))).1 k_ hk_.symm) ?aF ?aO ?aB ?aS ?aL ?_; (case aP => exact Kd.M_row (Kd.R_mono (Kd.R_tight rfl (Kd.R_mono (ok' := fun k_ => ((fun _ => True)) k_ ∧ some k_ ≠ (u3 : Value).ownBlock) (Kd.R_apart' (HO342.out) (Kd.S_typed HO_3.out) (by decide)) (fun k_ hk => ⟨trivial, hk.2⟩))) (fun _ h_ => h_))); (case aB => exact (by repeat (first | (with_reducible first | exact HB.out | apply ba_ | apply bn_ | apply bd_ | refine bs_ ?_ GE324.out) | exact HB.out))); (case aF => exact (fun _ _ => trivial)); (case aO => exact (by (with_reducible repeat (first | apply Kd.S_alloc | apply Kd.S_drewN | apply Kd.S_drew)); exact Kd.S_mono HO_3.out (fun k_ hk => ⟨trivial, fun e_ => hk.2 e_⟩))); (case aS => exact (below_size (by repeat (first | (with_reducible first | exact HB.out | apply ba_ | apply bn_ | apply bd_ | refine bs_ ?_ GE324.out) | exact HB.out)))); (case aL => have := LMc58.out; omega); intro v344 w61 ho hb hg hat; rw [← Ny343.out] at ho; have n0_ := As_ (Kd.R_over' (by (with_reducible repeat (first | apply Kd.R_alloc | apply Kd.R_drewN | apply Kd.R_drew)); exact HO_5.out) (Kd.S_typed (by (with_reducible repeat (first | apply Kd.S_alloc | apply Kd.S_drewN | apply Kd.S_drew)); exact HO_3.out)) (by decide) hg); have n1_ := As_ (Kd.R_over' (by (with_reducible repeat (first | apply Kd.R_alloc | apply Kd.R_drewN | apply Kd.R_drew)); exact HO_56.out) (Kd.S_typed (by (with_reducible repeat (first | apply Kd.S_alloc | apply Kd.S_drewN | apply Kd.S_drew)); exact HO_3.out)) (by decide) hg); have n2_ := As_ (blk_grown (g := gb324) (o := .cells #[.int .i64 a0_0, .int .i64 a0_1, .slice A0_2 l0_2.length c0_2] 31 (0, 0)) BK324.out hg (Kd.S_ne HO_3.out BK324.out (by decide))); have n3_ := As_ (hb); have n4_ := As_ (ho); clear HO_5; clear HO_56; clear BK324; clear HB; clear HO_3; clear HO342; have HO_5 := n0_; have HO_56 := n1_; have BK324 := n2_; have HB := n3_; have HO345 := n4_; clear n0_ n1_ n2_ n3_ n4_; clear ho hb hg hat))
          go_roundg k3
          case measure => have := HK1.out; have := HK2.out; have := HK3.out; omega
          case rel => exact ⟨(y343), (wrap64 (x58_3 + 1)), (by first | rfl | (simp; done) | (simp [*]; done)), H', ⟨by have := HK1.out; have := HK2.out; have := HK3.out; omega⟩, ⟨by (with_reducible repeat (first | apply Kd.S_alloc | apply Kd.S_drewN | apply Kd.S_drew)); exact HO345.out⟩, ⟨by (with_reducible repeat (first | apply Kd.R_alloc | apply Kd.R_drewN | apply Kd.R_drew)); exact HO_5.out⟩, ⟨by (with_reducible repeat (first | apply Kd.R_alloc | apply Kd.R_drewN | apply Kd.R_drew)); exact HO_56.out⟩, ⟨by (with_reducible repeat (first | refine kn_ ?_ _ | refine kd_ ?_ | refine ka_ ?_ _)); exact BK324.out⟩, ⟨by repeat (first | (with_reducible first | exact HB.out | apply ba_ | apply bn_ | apply bd_ | refine bs_ ?_ GE324.out) | exact HB.out)⟩⟩
        ·
         rw [if_neg c44] at H
         have c44b0 : decide (0 < x58_3) = false := decide_eq_false c44
         clear c44
         obtain ⟨y346, hy346⟩ : ∃ y_ : List Int, y_ = (([x15_1, x58_3, wrap64 (x58_3 + 1)] : List Int)) := ⟨_, rfl⟩
         replace H : (if x3_3.length < 5864062014805 then (impl_Cut_linesAcross.l3 k3 (x3_3 ++ [y346]) x15_1 x5_2 (wrap64 (a0_1 + 1)) x15_1 x5_2 (x5_2.length : Int) (wrap64 (x58_3 + 1)) a0_0 a0_1 l0_2) else (none)) = some r := by first | (rw [hy346]; with_reducible exact H) | (have H2_ := (Option.bind_some _ _).symm.trans H; rw [hy346]; with_reducible exact H2_) | (have H2_ := (Option.bind_some _ _).symm.trans H; with_reducible exact H2_) | with_reducible exact H | (rw [hy346]; exact H) | exact H
         have Ny346 := As_ hy346
         clear hy346
         by_cases c63 : x3_3.length < 5864062014805
         case neg => rw [if_neg c63] at H; exact absurd H (by simp)
         rw [if_pos c63] at H
         have LMc63 := As_ c63
         clear c63
         obtain ⟨y349, hy349⟩ : ∃ y_ : List (List Int), y_ = (x3_3 ++ [y346]) := ⟨_, rfl⟩
         replace H : (impl_Cut_linesAcross.l3 k3 y349 x15_1 x5_2 (wrap64 (a0_1 + 1)) x15_1 x5_2 (x5_2.length : Int) (wrap64 (x58_3 + 1)) a0_0 a0_1 l0_2) = some r := by first | (rw [hy349]; with_reducible exact H) | (have H2_ := (Option.bind_some _ _).symm.trans H; rw [hy349]; with_reducible exact H2_) | (have H2_ := (Option.bind_some _ _).symm.trans H; with_reducible exact H2_) | with_reducible exact H | (rw [hy349]; exact H) | exact H
         have Ny349 := As_ hy349
         clear hy349
         have H' := As_ H
         clear H
         have p334 : 0 ≤ (x58_3 : Int) := of_decide_eq_true (by first | (with_reducible assumption) | assumption)
         have q334 : x58_3 < (x5_2.length : Int) := of_decide_eq_true (by first | (with_reducible assumption) | assumption)
         obtain ⟨ad334, e334, hx334_0⟩ := Kd.at_bool (Kd.R_reads' HO_56.out).2.2 x58_3 p334 q334
         (try rw [← Nbq42.out] at hx334_0)
         cases e334
         replace p334 := eq_true p334
         replace q334 := eq_true q334
         go_wp2_with (first | ((with_reducible refine gate_dst (N := 68) rfl ?_); refine Kd.R_lit (Kd.int .i64) _ 3 ?hg (N := 68) ?hd (xs := ([x15_1, x58_3, wrap64 (x58_3 + 1)] : List Int)) (inner := [.int .i64 x15_1, .int .i64 x58_3, .int .i64 (wrap64 (x58_3 + 1))]) (ok := fun _ => True) (okp := fun _ => True) ?hr ?hp (fun _ hk => hk) trivial (Below.refl _ _) (Nat.le_refl _) (by simp) ?_; (case hd => rfl); (case hg => rfl); (case hr => first | (go_simp; done) | (go_simp; rfl)); (case hp => exact (Reps.one (show Kd.M (Kd.int .i64) _ _ _ x15_1 [.int .i64 x15_1] from rfl) (Reps.one (show Kd.M (Kd.int .i64) _ _ _ x58_3 [.int .i64 x58_3] from rfl) (Reps.one (show Kd.M (Kd.int .i64) _ _ _ (wrap64 (x58_3 + 1)) [.int .i64 (wrap64 (x58_3 + 1))] from rfl) (Reps.none _ _))))); intro v347 w64 ho65 hb hg_ hnew_; clear hg_ hnew_; (first | rw [← Ny346.out] at ho65 | (simp only [Int.reduceToNat] at ho65; rw [← Ny346.out] at ho65)); have HO348 := As_ (Kd.R_lower ho65 (below_size (by repeat (first | (with_reducible first | exact HB.out | apply ba_ | apply bn_ | apply bd_ | refine bs_ ?_ GE324.out) | exact HB.out)))); replace HO_3 := As_ (Kd.S_elder' (by (with_reducible repeat (first | apply Kd.S_alloc | apply Kd.S_drewN | apply Kd.S_drew)); exact HO_3.out) (Kd.R_base ho65) hb); replace HO_5 := As_ (Kd.R_below (by (with_reducible repeat (first | apply Kd.R_alloc | apply Kd.R_drewN | apply Kd.R_drew)); exact HO_5.out) hb); replace HO_56 := As_ (Kd.R_below (by (with_reducible repeat (first | apply Kd.R_alloc | apply Kd.R_drewN | apply Kd.R_drew)); exact HO_56.out) hb); replace BK324 := As_ (blk_b hb BK324.out); replace HB := As_ (below_step (by repeat (first | (with_reducible first | exact HB.out | apply ba_ | apply bn_ | apply bd_ | refine bs_ ?_ GE324.out) | exact HB.out)) hb); clear hb ho65; obtain ⟨Ao67, co67, eo67⟩ := Kd.R_slice HO348.out; subst eo67) | ((with_reducible refine gate_builtin (b := .append) (xs := #[.tmp 63, .tmp 69]) rfl ?_); at_builtin; refine Kd.S_append (Kd.slice 3 (Kd.int .i64)) (w0 := w) w.heap.size rfl (.tmp 63) (.tmp 69) 98 26 (.slice none 0 0) 24 rfl Try.underlying98 info26 rfl (by decide) (by omega) u3 x3_3 y346 [.slice Ao67 y346.length co67] (fun _ => True) (fun k_ => some k_ = (.slice Ao67 y346.length co67 : Value).ownBlock) rfl rfl ?aP (fun k_ hk_ => ((Kd.R_mono (ok' := fun k_ => ((fun _ => True)) k_ ∧ some k_ ≠ (u3 : Value).ownBlock) (Kd.R_apart' (HO348.out) (Kd.S_typed HO_3.out) (by decide)) (fun k_ hk => ⟨trivial, hk.2⟩))).1 k_ hk_.symm) ?aF ?aO ?aB ?aS ?aL ?_; (case aP => exact Kd.M_row (Kd.R_mono (Kd.R_tight rfl (Kd.R_mono (ok' := fun k_ => ((fun _ => True)) k_ ∧ some k_ ≠ (u3 : Value).ownBlock) (Kd.R_apart' (HO348.out) (Kd.S_typed HO_3.out) (by decide)) (fun k_ hk => ⟨trivial, hk.2⟩))) (fun _ h_ => h_))); (case aB => exact (by repeat (first | (with_reducible first | exact HB.out | apply ba_ | apply bn_ | apply bd_ | refine bs_ ?_ GE324.out) | exact HB.out))); (case aF => exact (fun _ _ => trivial)); (case aO => exact (by (with_reducible repeat (first | apply Kd.S_alloc | apply Kd.S_drewN | apply Kd.S_drew)); exact Kd.S_mono HO_3.out (fun k_ hk => ⟨trivial, fun e_ => hk.2 e_⟩))); (case aS => exact (below_size (by repeat (first | (with_reducible first | exact HB.out | apply ba_ | apply bn_ | apply bd_ | refine bs_ ?_ GE324.out) | exact HB.out)))); (case aL => have := LMc63.out; omega); intro v350 w66 ho hb hg hat; rw [← Ny349.out] at ho; have n0_ := As_ (Kd.R_over' (by (with_reducible repeat (first | apply Kd.R_alloc | apply Kd.R_drewN | apply Kd.R_drew)); exact HO_5.out) (Kd.S_typed (by (with_reducible repeat (first | apply Kd.S_alloc | apply Kd.S_drewN | apply Kd.S_drew)); exact HO_3.out)) (by decide) hg); have n1_ := As_ (Kd.R_over' (by (with_reducible repeat (first | apply Kd.R_alloc | apply Kd.R_drewN | apply Kd.R_drew)); exact HO_56.out) (Kd.S_typed (by (with_reducible repeat (first | apply Kd.S_alloc | apply Kd.S_drewN | apply Kd.S_drew)); exact HO_3.out)) (by decide) hg); have n2_ := As_ (blk_grown (g := gb324) (o := .cells #[.int .i64 a0_0, .int .i64 a0_1, .slice A0_2 l0_2.length c0_2] 31 (0, 0)) BK324.out hg (Kd.S_ne HO_3.out BK324.out (by decide))); have n3_ := As_ (hb); have n4_ := As_ (ho); clear HO_5; clear HO_56; clear BK324; clear HB; clear HO_3; clear HO348; have HO_5 := n0_; have HO_56 := n1_; have BK324 := n2_; have HB := n3_; have HO351 := n4_; clear n0_ n1_ n2_ n3_ n4_; clear ho hb hg hat))
         go_roundg k3
         case measure => have := HK1.out; have := HK2.out; have := HK3.out; omega
         case rel => exact ⟨(y349), (wrap64 (x58_3 + 1)), (by first | rfl | (simp; done) | (simp [*]; done)), H', ⟨by have := HK1.out; have := HK2.out; have := HK3.out; omega⟩, ⟨by (with_reducible repeat (first | apply Kd.S_alloc | apply Kd.S_drewN | apply Kd.S_drew)); exact HO351.out⟩, ⟨by (with_reducible repeat (first | apply Kd.R_alloc | apply Kd.R_drewN | apply Kd.R_drew)); exact HO_5.out⟩, ⟨by (with_reducible repeat (first | apply Kd.R_alloc | apply Kd.R_drewN | apply Kd.R_drew)); exact HO_56.out⟩, ⟨by (with_reducible repeat (first | refine kn_ ?_ _ | refine kd_ ?_ | refine ka_ ?_ _)); exact BK324.out⟩, ⟨by repeat (first | (with_reducible first | exact HB.out | apply ba_ | apply bn_ | apply bd_ | refine bs_ ?_ GE324.out) | exact HB.out)⟩⟩
       ·
        replace c43 := Bool.eq_false_iff.mpr c43
        subst c43
        have H1 : (impl_Cut_linesAcross.l3 k3 x3_3 x15_1 x5_2 (wrap64 (a0_1 + 1)) x15_1 x5_2 (x5_2.length : Int) (wrap64 (x58_3 + 1)) a0_0 a0_1 l0_2) = some r := by rw [if_neg (show ¬ (false = true) by decide)] at H; exact H
        clear H
        have H := H1
        clear H1
        have H' := As_ H
        clear H
        have p334 : 0 ≤ (x58_3 : Int) := of_decide_eq_true (by first | (with_reducible assumption) | assumption)
        have q334 : x58_3 < (x5_2.length : Int) := of_decide_eq_true (by first | (with_reducible assumption) | assumption)
        obtain ⟨ad334, e334, hx334_0⟩ := Kd.at_bool (Kd.R_reads' HO_56.out).2.2 x58_3 p334 q334
        (try rw [← Nbq42.out] at hx334_0)
        cases e334
        replace p334 := eq_true p334
        replace q334 := eq_true q334
        go_wp2
        go_roundg k3
        case measure => have := HK1.out; have := HK2.out; have := HK3.out; omega
        case rel => exact ⟨(x3_3), (wrap64 (x58_3 + 1)), (by first | rfl | (simp; done) | (simp [*]; done)), H', ⟨by have := HK1.out; have := HK2.out; have := HK3.out; omega⟩, ⟨by (with_reducible repeat (first | apply Kd.S_alloc | apply Kd.S_drewN | apply Kd.S_drew)); exact HO_3.out⟩, ⟨by (with_reducible repeat (first | apply Kd.R_alloc | apply Kd.R_drewN | apply Kd.R_drew)); exact HO_5.out⟩, ⟨by (with_reducible repeat (first | apply Kd.R_alloc | apply Kd.R_drewN | apply Kd.R_drew)); exact HO_56.out⟩, ⟨by (with_reducible repeat (first | refine kn_ ?_ _ | refine kd_ ?_ | refine ka_ ?_ _)); exact BK324.out⟩, ⟨by repeat (first | (with_reducible first | exact HB.out | apply ba_ | apply bn_ | apply bd_ | refine bs_ ?_ GE324.out) | exact HB.out)⟩⟩
      ·
       rw [if_neg c39] at H
       have c39b0 : decide (x58_3 < (x5_2.length : Int)) = false := decide_eq_false c39
       clear c39
       have H' := As_ H
       clear H
       go_wp2
       go_roundg k3
       case measure => have := HK1.out; have := HK2.out; have := HK3.out; omega
       case rel => exact ⟨(x3_3), (wrap64 (x15_1 + 1)), (by first | rfl | (simp; done) | (simp [*]; done)), H', ⟨by have := HK1.out; have := HK2.out; have := HK3.out; omega⟩, ⟨by (with_reducible repeat (first | apply Kd.S_alloc | apply Kd.S_drewN | apply Kd.S_drew)); exact HO_3.out⟩, ⟨by (with_reducible repeat (first | refine kn_ ?_ _ | refine kd_ ?_ | refine ka_ ?_ _)); exact BK324.out⟩, ⟨by repeat (first | (with_reducible first | exact HB.out | apply ba_ | apply bn_ | apply bd_ | refine bs_ ?_ GE324.out) | exact HB.out)⟩⟩
  ·
   rw [if_neg c6] at H
   have c6b0 : decide (x15_1 < (wrap64 (a0_1 + 1))) = false := decide_eq_false c6
   clear c6
   obtain rfl := Option.some.inj H
   go_wp2
   go_ret
   exact ⟨_, by first | rfl | (simp <;> rfl) | (simp [*] <;> rfl), by (with_reducible repeat (first | apply Kd.S_alloc | apply Kd.S_drewN | apply Kd.S_drew)); exact HO_3.out, by repeat (first | (with_reducible first | exact HB.out | apply ba_ | apply bn_ | apply bd_ | refine bs_ ?_ GE324.out) | exact HB.out)⟩

end Go.Proofs.Ytipiaiolhhnnhaa.PFnExactMakePuzzle
