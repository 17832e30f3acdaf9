-- Written by a program of this session (wip/tools/pg.py) out of the translation.
import Derived.Test.YtipiaiolhhnnhaaPFnExactFillSidesx0
import Derived.Test.YtipiaiolhhnnhaaPFnExactFillSidesx1
import Derived.Test.YtipiaiolhhnnhaaPFnExactFillSidesx5
import Derived.Test.YtipiaiolhhnnhaaPFnExactFillSidesx13
import Derived.Test.YtipiaiolhhnnhaaPFnExactFillSidesx14
namespace Go.Proofs.Ytipiaiolhhnnhaa.PFnExactFillSides
open Go.RowKit Go.Proofs.YtipiaiolhhnnhaaW.PrintWords Go.Proofs.YtipiaiolhhnnhaaW.PrintLast Go.Proofs.YtipiaiolhhnnhaaW.PrintMore Go.Proofs.YtipiaiolhhnnhaaH
attribute [local go_sem] max2_int min2_int max_two min_two max_three min_three max_four min_four   -- for this text's walks alone
set_option linter.unusedVariables false
set_option linter.unusedSimpArgs false

/-! ### laws_FnExactFillSides: function 3 -/
mutual
def laws_FnExactFillSides.j0 : Nat → List Int → Bool → List Int → Bool → Bool → Int → Int → List (S89) → Int → Int → List (S87) → Option (Bool)
  | 0, _, _, _, _, _, _, _, _, _, _, _ => none
  | k + 1, x4, x5, x7, x8, x40, x273000, x273001, x273002, x289000, x289001, x289002 => if x40 = true then (none) else ((laws_toCut.f k x273000 x273001 x273002).bind fun bt294 => ((laws_eqCut.f k x289000 x289001 x289002 bt294.1 bt294.2.1 bt294.2.2).bind fun t299 => (if t299 = true then ((laws_markCut.f k x289000 x289001 x289002 1).bind fun bt300 => (if bt300.1 < 0 then (laws_FnExactFillSides.j1 k x4 x5 x7 true x273000 x273001 x273002) else ((laws_eqIntS.f k x7 x4).bind fun t302 => (if t302 = true then (laws_FnExactFillSides.j1 k x4 x5 x7 (x8 != x5) x273000 x273001 x273002) else (laws_FnExactFillSides.j1 k x4 x5 x7 true x273000 x273001 x273002))))) else (none))))
def laws_FnExactFillSides.j1 : Nat → List Int → Bool → List Int → Bool → Int → Int → List (S89) → Option (Bool)
  | 0, _, _, _, _, _, _, _ => none
  | k + 1, x4, x5, x7, x61, x273000, x273001, x273002 => if x61 = true then (none) else ((laws_markIntS.f k x7 1).bind fun bt303 => ((laws_heldIntS.f k bt303.2 1).bind fun t305 => (if t305 < 0 then (none) else (if t305 = bt303.1 then ((laws_toCut.f k x273000 x273001 x273002).bind fun bt306 => ((impl_FillSides.f bt306.1 bt306.2.1 bt306.2.2).bind fun bt311 => ((laws_eqIntS.f k bt311.1 x4).bind fun t315 => (if t315 = true then (laws_FnExactFillSides.j2 k bt303.2 bt303.1 (bt311.2 != x5)) else (laws_FnExactFillSides.j2 k bt303.2 bt303.1 true))))) else (none)))))
def laws_FnExactFillSides.j2 : Nat → List Int → Int → Bool → Option (Bool)
  | 0, _, _, _ => none
  | k + 1, x7, x10, x87 => if x87 = true then (none) else ((laws_heldIntS.f k x7 1).bind fun t316 => (if t316 < 0 then (none) else (if t316 = x10 then (some true) else (none))))
end
def laws_FnExactFillSides.f (k : Nat) (a0_0 : Int) (a0_1 : Int) (l0_2 : List (S89)) : Option (Bool) := (laws_szCut.f a0_0 a0_1 l0_2 1048576).bind fun t273 => (if t273 < 0 then (some true) else ((laws_toCut.f k a0_0 a0_1 l0_2).bind fun bt274 => ((spec_FillSides.f k bt274.1 bt274.2.1 bt274.2.2).bind fun bt279 => ((laws_toCut.f k a0_0 a0_1 l0_2).bind fun bt283 => ((impl_FillSides.f bt283.1 bt283.2.1 bt283.2.2).bind fun bt289 => ((laws_eqIntS.f k bt289.1 bt279.1).bind fun t293 => (if t293 = true then (laws_FnExactFillSides.j0 k bt279.1 bt279.2 bt289.1 bt289.2 (bt289.2 != bt279.2) a0_0 a0_1 l0_2 bt283.1 bt283.2.1 bt283.2.2) else (laws_FnExactFillSides.j0 k bt279.1 bt279.2 bt289.1 bt289.2 true a0_0 a0_1 l0_2 bt283.1 bt283.2.1 bt283.2.2))))))))
theorem laws_FnExactFillSides.mono_l : ∀ k, (∀ y0 y1 y2 y3 y4 y5 y6 y7 y8 y9 y10, LeO (laws_FnExactFillSides.j0 k y0 y1 y2 y3 y4 y5 y6 y7 y8 y9 y10) (laws_FnExactFillSides.j0 (k + 1) y0 y1 y2 y3 y4 y5 y6 y7 y8 y9 y10)) ∧ (∀ y0 y1 y2 y3 y4 y5 y6, LeO (laws_FnExactFillSides.j1 k y0 y1 y2 y3 y4 y5 y6) (laws_FnExactFillSides.j1 (k + 1) y0 y1 y2 y3 y4 y5 y6)) ∧ (∀ y0 y1 y2, LeO (laws_FnExactFillSides.j2 k y0 y1 y2) (laws_FnExactFillSides.j2 (k + 1) y0 y1 y2))
  | 0 => ⟨fun _ _ _ _ _ _ _ _ _ _ _ r h => by simp [laws_FnExactFillSides.j0] at h, fun _ _ _ _ _ _ _ r h => by simp [laws_FnExactFillSides.j1] at h, fun _ _ _ r h => by simp [laws_FnExactFillSides.j2] at h⟩
  | k + 1 => by
    obtain ⟨ih0, ih1, ih2⟩ := laws_FnExactFillSides.mono_l k
    refine ⟨?_, ?_, ?_⟩
    · intro y0 y1 y2 y3 y4 y5 y6 y7 y8 y9 y10
      unfold laws_FnExactFillSides.j0
      repeat' first
      | (with_reducible exact ih0 _ _ _ _ _ _ _ _ _ _ _)
      | (with_reducible exact ih1 _ _ _ _ _ _ _)
      | (with_reducible exact ih2 _ _ _)
      | (with_reducible exact laws_eqCut.mono _ _ _ _ _ _ _)
      | (with_reducible exact laws_eqIntS.mono _ _ _)
      | (with_reducible exact laws_heldIntS.mono _ _ _)
      | (with_reducible exact laws_markCut.mono _ _ _ _ _)
      | (with_reducible exact laws_markIntS.mono _ _ _)
      | (with_reducible exact laws_toCut.mono _ _ _ _)
      | (with_reducible exact spec_FillSides.mono _ _ _ _)
      | (with_reducible exact LeO.refl _)
      | (with_reducible exact LeO.none _)
      | (with_reducible refine LeO.ite ?_ ?_)
      | (with_reducible refine LeO.bind ?_ (fun _ => ?_))
      | exact ih0 _ _ _ _ _ _ _ _ _ _ _
      | exact ih1 _ _ _ _ _ _ _
      | exact ih2 _ _ _
      | exact laws_eqCut.mono _ _ _ _ _ _ _
      | exact laws_eqIntS.mono _ _ _
      | exact laws_heldIntS.mono _ _ _
      | exact laws_markCut.mono _ _ _ _ _
      | exact laws_markIntS.mono _ _ _
      | exact laws_toCut.mono _ _ _ _
      | exact spec_FillSides.mono _ _ _ _
      | exact LeO.none _
      | refine LeO.ite ?_ ?_
      | refine LeO.bind ?_ (fun _ => ?_)
    · intro y0 y1 y2 y3 y4 y5 y6
      unfold laws_FnExactFillSides.j1
      repeat' first
      | (with_reducible exact ih0 _ _ _ _ _ _ _ _ _ _ _)
      | (with_reducible exact ih1 _ _ _ _ _ _ _)
      | (with_reducible exact ih2 _ _ _)
      | (with_reducible exact laws_eqCut.mono _ _ _ _ _ _ _)
      | (with_reducible exact laws_eqIntS.mono _ _ _)
      | (with_reducible exact laws_heldIntS.mono _ _ _)
      | (with_reducible exact laws_markCut.mono _ _ _ _ _)
      | (with_reducible exact laws_markIntS.mono _ _ _)
      | (with_reducible exact laws_toCut.mono _ _ _ _)
      | (with_reducible exact spec_FillSides.mono _ _ _ _)
      | (with_reducible exact LeO.refl _)
      | (with_reducible exact LeO.none _)
      | (with_reducible refine LeO.ite ?_ ?_)
      | (with_reducible refine LeO.bind ?_ (fun _ => ?_))
      | exact ih0 _ _ _ _ _ _ _ _ _ _ _
      | exact ih1 _ _ _ _ _ _ _
      | exact ih2 _ _ _
      | exact laws_eqCut.mono _ _ _ _ _ _ _
      | exact laws_eqIntS.mono _ _ _
      | exact laws_heldIntS.mono _ _ _
      | exact laws_markCut.mono _ _ _ _ _
      | exact laws_markIntS.mono _ _ _
      | exact laws_toCut.mono _ _ _ _
      | exact spec_FillSides.mono _ _ _ _
      | exact LeO.none _
      | refine LeO.ite ?_ ?_
      | refine LeO.bind ?_ (fun _ => ?_)
    · intro y0 y1 y2
      unfold laws_FnExactFillSides.j2
      repeat' first
      | (with_reducible exact ih0 _ _ _ _ _ _ _ _ _ _ _)
      | (with_reducible exact ih1 _ _ _ _ _ _ _)
      | (with_reducible exact ih2 _ _ _)
      | (with_reducible exact laws_eqCut.mono _ _ _ _ _ _ _)
      | (with_reducible exact laws_eqIntS.mono _ _ _)
      | (with_reducible exact laws_heldIntS.mono _ _ _)
      | (with_reducible exact laws_markCut.mono _ _ _ _ _)
      | (with_reducible exact laws_markIntS.mono _ _ _)
      | (with_reducible exact laws_toCut.mono _ _ _ _)
      | (with_reducible exact spec_FillSides.mono _ _ _ _)
      | (with_reducible exact LeO.refl _)
      | (with_reducible exact LeO.none _)
      | (with_reducible refine LeO.ite ?_ ?_)
      | (with_reducible refine LeO.bind ?_ (fun _ => ?_))
      | exact ih0 _ _ _ _ _ _ _ _ _ _ _
      | exact ih1 _ _ _ _ _ _ _
      | exact ih2 _ _ _
      | exact laws_eqCut.mono _ _ _ _ _ _ _
      | exact laws_eqIntS.mono _ _ _
      | exact laws_heldIntS.mono _ _ _
      | exact laws_markCut.mono _ _ _ _ _
      | exact laws_markIntS.mono _ _ _
      | exact laws_toCut.mono _ _ _ _
      | exact spec_FillSides.mono _ _ _ _
      | exact LeO.none _
      | refine LeO.ite ?_ ?_
      | refine LeO.bind ?_ (fun _ => ?_)
theorem laws_FnExactFillSides.mono : ∀ a0 a1 a2 k, LeO (laws_FnExactFillSides.f k a0 a1 a2) (laws_FnExactFillSides.f (k + 1) a0 a1 a2) := by
  intro a0 a1 a2 k
  obtain ⟨ih0, ih1, ih2⟩ := laws_FnExactFillSides.mono_l k
  unfold laws_FnExactFillSides.f
  repeat' first
      | (with_reducible exact ih0 _ _ _ _ _ _ _ _ _ _ _)
      | (with_reducible exact ih1 _ _ _ _ _ _ _)
      | (with_reducible exact ih2 _ _ _)
      | (with_reducible exact laws_eqCut.mono _ _ _ _ _ _ _)
      | (with_reducible exact laws_eqIntS.mono _ _ _)
      | (with_reducible exact laws_heldIntS.mono _ _ _)
      | (with_reducible exact laws_markCut.mono _ _ _ _ _)
      | (with_reducible exact laws_markIntS.mono _ _ _)
      | (with_reducible exact laws_toCut.mono _ _ _ _)
      | (with_reducible exact spec_FillSides.mono _ _ _ _)
      | (with_reducible exact LeO.refl _)
      | (with_reducible exact LeO.none _)
      | (with_reducible refine LeO.ite ?_ ?_)
      | (with_reducible refine LeO.bind ?_ (fun _ => ?_))
      | exact ih0 _ _ _ _ _ _ _ _ _ _ _
      | exact ih1 _ _ _ _ _ _ _
      | exact ih2 _ _ _
      | exact laws_eqCut.mono _ _ _ _ _ _ _
      | exact laws_eqIntS.mono _ _ _
      | exact laws_heldIntS.mono _ _ _
      | exact laws_markCut.mono _ _ _ _ _
      | exact laws_markIntS.mono _ _ _
      | exact laws_toCut.mono _ _ _ _
      | exact spec_FillSides.mono _ _ _ _
      | exact LeO.none _
      | refine LeO.ite ?_ ?_
      | refine LeO.bind ?_ (fun _ => ?_)
set_option maxHeartbeats 8000000 in
set_option maxRecDepth 100000 in
theorem laws_FnExactFillSides.calls (k : Nat) (a0_0 : Int) (a0_1 : Int) (A0_2 : Option Addr) (c0_2 : Nat) (l0_2 : List (S89)) (r : Bool) (w : World) (hr0_2 : Kd.C k89 w A0_2 l0_2.length l0_2) (hc0_2 : l0_2.length ≤ c0_2) (h : laws_FnExactFillSides.f k a0_0 a0_1 l0_2 = some r) :
    Calls Try.prog 3 #[.agg #[.int .i64 a0_0, .int .i64 a0_1, .slice A0_2 l0_2.length c0_2]] w fun e w' => e = .returned (.bool r) ∧ Below w.heap.size w w' := by
  have hu24 := Try.underlying24
  have hu31 := Try.underlying31
  have HR0_2 := As_ hr0_2
  have HC0_2 := As_ hc0_2
  clear hr0_2 hc0_2
  have HB := As_ (Below.refl w.heap.size w)
  have H : ((laws_szCut.f a0_0 a0_1 l0_2 1048576).bind fun t273 => (if t273 < 0 then (some true) else ((laws_toCut.f k a0_0 a0_1 l0_2).bind fun bt274 => ((spec_FillSides.f k bt274.1 bt274.2.1 bt274.2.2).bind fun bt279 => ((laws_toCut.f k a0_0 a0_1 l0_2).bind fun bt283 => ((impl_FillSides.f bt283.1 bt283.2.1 bt283.2.2).bind fun bt289 => ((laws_eqIntS.f k bt289.1 bt279.1).bind fun t293 => (if t293 = true then (laws_FnExactFillSides.j0 k bt279.1 bt279.2 bt289.1 bt289.2 (bt289.2 != bt279.2) a0_0 a0_1 l0_2 bt283.1 bt283.2.1 bt283.2.2) else (laws_FnExactFillSides.j0 k bt279.1 bt279.2 bt289.1 bt289.2 true a0_0 a0_1 l0_2 bt283.1 bt283.2.1 bt283.2.2))))))))) = some r := h
  clear h
  replace H := Option.bind_eq_some_iff.mp H
  obtain ⟨t273, A20, H⟩ := H
  try dsimp only at H
  have A2 := As_ A20
  clear A20
  by_cases c3 : t273 < 0
  · rw [if_pos c3] at H
    have c3b0 : decide (t273 < 0) = true := decide_eq_true c3
    clear c3
    obtain rfl := Option.some.inj H
    go_enter Try.func3, Try.ntmps3
    go_wp2_with (first | ((with_reducible refine gate_dst (N := 1) rfl ?_); refine box_event ?hg (N := 1) ?hd (cs := #[.int .i64 a0_0, .int .i64 a0_1, .slice A0_2 l0_2.length c0_2]) (t := 24) ?hr ?_; (case hd => rfl); (case hg => rfl); (case hr => first | (go_simp; done) | (go_simp; rfl)); intro gb272 hg w4 hbox hb; have BK272 := As_ (hbox); have GW272 := As_ ((by rw [hg]; exact (below_size (by repeat (first | (with_reducible first | exact HB.out | apply below_alloc | apply pw_below_drewN | apply below_drew1) | exact HB.out))) : w.heap.size ≤ gb272)); have GE272 := As_ ((by rw [hg]; exact (below_size (by repeat (first | (with_reducible first | exact HB.out | apply below_alloc | apply pw_below_drewN | apply below_drew1) | exact HB.out))) : w.heap.size ≤ gb272)); replace HB := As_ (below_step (by repeat (first | (with_reducible first | exact HB.out | apply below_alloc | apply pw_below_drewN | apply below_drew1) | exact HB.out)) hb); clear hb hbox hg; have hcz5_0 : w4.cell? ⟨gb272, 0, none⟩ = some (.int .i64 a0_0) := (blk_cell BK272.out 0).trans rfl; have hcz5_1 : w4.cell? ⟨gb272, 1, none⟩ = some (.int .i64 a0_1) := (blk_cell BK272.out 1).trans rfl; have hcz5_2 : w4.cell? ⟨gb272, 2, none⟩ = some (.slice A0_2 l0_2.length c0_2) := (blk_cell BK272.out 2).trans rfl; have hfz5_0 := blk_frozen BK272.out 0; have hfz5_1 := blk_frozen BK272.out 1; have hfz5_2 := blk_frozen BK272.out 2) | ((with_reducible refine gate_callee (f := 7) rfl ?_); refine goesL_ (some 16) rfl rfl Try.func7 (by kernel_rfl) rfl #[.agg #[.int .i64 a0_0, .int .i64 a0_1, .slice A0_2 l0_2.length c0_2], .int .i64 1048576] rfl (by (try simp only [List.map_toArray, List.map_cons, List.map_nil]); first | done | rfl | (simp only [List.length_drop, List.length_take]; rfl)) ?_; (with_reducible refine (laws_szCut.calls a0_0 a0_1 _ _ l0_2 1048576 t273 _ ?side1 ?side2 A2.out).mono ?_); (case side1 => repeat (first | exact (Kd.C_below HR0_2.out HB.out) | (with_reducible refine Kd.C_alloc ?_ _) | (with_reducible refine Kd.C_drewN ?_ _) | (with_reducible refine Kd.C_drew ?_))); (case side2 => exact HC0_2.out); rintro e w6 ⟨rfl, hb⟩; refine ⟨_, rfl, ?_⟩; replace BK272 := As_ (blk_b hb BK272.out); replace HB := As_ (below_step (by repeat (first | (with_reducible first | exact HB.out | apply below_alloc | apply pw_below_drewN | apply below_drew1 | refine below_set ?_ GE272.out) | exact HB.out)) hb); (try clear hb)))
    go_ret
    exact ⟨by first | rfl | (simp [errW_none, errW_some] <;> rfl) | (simp [*, errW_none, errW_some] <;> rfl), by repeat (first | (with_reducible first | exact HB.out | apply below_alloc | apply pw_below_drewN | apply below_drew1 | refine below_set ?_ GE272.out) | exact HB.out)⟩
  · rw [if_neg c3] at H
    have c3b0 : decide (t273 < 0) = false := decide_eq_false c3
    clear c3
    replace H := Option.bind_eq_some_iff.mp H
    obtain ⟨⟨t274, t275, t276⟩, A70, H⟩ := H
    try dsimp only at H
    have A7 := As_ A70
    clear A70
    replace H := Option.bind_eq_some_iff.mp H
    obtain ⟨⟨t279, t282⟩, A80, H⟩ := H
    try dsimp only at H
    have A8 := As_ A80
    clear A80
    replace H := Option.bind_eq_some_iff.mp H
    obtain ⟨⟨t283, t284, t285⟩, A90, H⟩ := H
    try dsimp only at H
    have A9 := As_ A90
    clear A90
    replace H := Option.bind_eq_some_iff.mp H
    obtain ⟨⟨t289, t292⟩, A100, H⟩ := H
    try dsimp only at H
    have A10 := As_ A100
    clear A100
    have HC11 := As_ H
    clear H
    go_enter Try.func3, Try.ntmps3
    go_upto_region 8 with (first | ((with_reducible refine gate_dst (N := 1) rfl ?_); refine box_event ?hg (N := 1) ?hd (cs := #[.int .i64 a0_0, .int .i64 a0_1, .slice A0_2 l0_2.length c0_2]) (t := 24) ?hr ?_; (case hd => rfl); (case hg => rfl); (case hr => first | (go_simp; done) | (go_simp; rfl)); intro gb272 hg w12 hbox hb; have BK272 := As_ (hbox); have GW272 := As_ ((by rw [hg]; exact (below_size (by repeat (first | (with_reducible first | exact HB.out | apply below_alloc | apply pw_below_drewN | apply below_drew1) | exact HB.out))) : w.heap.size ≤ gb272)); have GE272 := As_ ((by rw [hg]; exact (below_size (by repeat (first | (with_reducible first | exact HB.out | apply below_alloc | apply pw_below_drewN | apply below_drew1) | exact HB.out))) : w.heap.size ≤ gb272)); replace HB := As_ (below_step (by repeat (first | (with_reducible first | exact HB.out | apply below_alloc | apply pw_below_drewN | apply below_drew1) | exact HB.out)) hb); clear hb hbox hg; have hcz13_0 : w12.cell? ⟨gb272, 0, none⟩ = some (.int .i64 a0_0) := (blk_cell BK272.out 0).trans rfl; have hcz13_1 : w12.cell? ⟨gb272, 1, none⟩ = some (.int .i64 a0_1) := (blk_cell BK272.out 1).trans rfl; have hcz13_2 : w12.cell? ⟨gb272, 2, none⟩ = some (.slice A0_2 l0_2.length c0_2) := (blk_cell BK272.out 2).trans rfl; have hfz13_0 := blk_frozen BK272.out 0; have hfz13_1 := blk_frozen BK272.out 1; have hfz13_2 := blk_frozen BK272.out 2) | ((with_reducible refine gate_callee (f := 7) rfl ?_); refine goesL_ (some 16) rfl rfl Try.func7 (by kernel_rfl) rfl #[.agg #[.int .i64 a0_0, .int .i64 a0_1, .slice A0_2 l0_2.length c0_2], .int .i64 1048576] rfl (by (try simp only [List.map_toArray, List.map_cons, List.map_nil]); first | done | rfl | (simp only [List.length_drop, List.length_take]; rfl)) ?_; (with_reducible refine (laws_szCut.calls a0_0 a0_1 _ _ l0_2 1048576 t273 _ ?side1 ?side2 A2.out).mono ?_); (case side1 => repeat (first | exact (Kd.C_below HR0_2.out HB.out) | (with_reducible refine Kd.C_alloc ?_ _) | (with_reducible refine Kd.C_drewN ?_ _) | (with_reducible refine Kd.C_drew ?_))); (case side2 => exact HC0_2.out); rintro e w14 ⟨rfl, hb⟩; refine ⟨_, rfl, ?_⟩; replace BK272 := As_ (blk_b hb BK272.out); replace HB := As_ (below_step (by repeat (first | (with_reducible first | exact HB.out | apply below_alloc | apply pw_below_drewN | apply below_drew1 | refine below_set ?_ GE272.out) | exact HB.out)) hb); (try clear hb); have hcz15_0 : w14.cell? ⟨gb272, 0, none⟩ = some (.int .i64 a0_0) := (blk_cell BK272.out 0).trans rfl; have hcz15_1 : w14.cell? ⟨gb272, 1, none⟩ = some (.int .i64 a0_1) := (blk_cell BK272.out 1).trans rfl; have hcz15_2 : w14.cell? ⟨gb272, 2, none⟩ = some (.slice A0_2 l0_2.length c0_2) := (blk_cell BK272.out 2).trans rfl; have hfz15_0 := blk_frozen BK272.out 0; have hfz15_1 := blk_frozen BK272.out 1; have hfz15_2 := blk_frozen BK272.out 2) | ((with_reducible refine gate_callee (f := 9) rfl ?_); refine goesL_ (some 21) rfl rfl Try.func9 (by kernel_rfl) rfl #[.agg #[.int .i64 a0_0, .int .i64 a0_1, .slice A0_2 l0_2.length c0_2]] rfl (by (try simp only [List.map_toArray, List.map_cons, List.map_nil]); first | done | rfl | (simp only [List.length_drop, List.length_take]; rfl)) ?_; (with_reducible refine (laws_toCut.calls k a0_0 a0_1 _ _ l0_2 t274 t275 t276 _ ?side1 ?side2 A7.out).mono ?_); (case side1 => repeat (first | exact (Kd.C_below HR0_2.out HB.out) | (with_reducible refine Kd.C_alloc ?_ _) | (with_reducible refine Kd.C_drewN ?_ _) | (with_reducible refine Kd.C_drew ?_))); (case side2 => exact HC0_2.out); rintro e w16 ⟨v277, rfl, ho0, hb⟩; refine ⟨_, rfl, ?_⟩; have HO278 := As_ (Kd.R_lower ho0 (below_size (by repeat (first | (with_reducible first | exact HB.out | apply below_alloc | apply pw_below_drewN | apply below_drew1 | refine below_set ?_ GE272.out) | exact HB.out)))); replace BK272 := As_ (blk_b hb BK272.out); replace HB := As_ (below_step (by repeat (first | (with_reducible first | exact HB.out | apply below_alloc | apply pw_below_drewN | apply below_drew1 | refine below_set ?_ GE272.out) | exact HB.out)) hb); (try clear hb); (try clear ho0); obtain ⟨Ao17, co17, eo17⟩ := Kd.R_slice HO278.out; subst eo17) | ((with_reducible refine gate_callee (f := 8) rfl ?_); refine goesL_ (some 22) rfl rfl Try.func8 (by kernel_rfl) rfl #[.agg #[.int .i64 t274, .int .i64 t275, .slice Ao17 t276.length co17]] rfl (by (try simp only [List.map_toArray, List.map_cons, List.map_nil]); first | done | rfl | (simp only [List.length_drop, List.length_take]; rfl)) ?_; (with_reducible refine (spec_FillSides.calls k t274 t275 _ _ t276 t279 t282 _ ?side1 ?side2 A8.out).mono ?_); (case side1 => repeat (first | exact (Kd.R_reads' HO278.out).2.2 | (with_reducible refine Kd.C_alloc ?_ _) | (with_reducible refine Kd.C_drewN ?_ _) | (with_reducible refine Kd.C_drew ?_))); (case side2 => exact (Kd.R_reads' HO278.out).2.1); rintro e w18 ⟨v280, rfl, ho0, hb⟩; refine ⟨_, rfl, ?_⟩; have HO281 := As_ (Kd.R_lower ho0 (below_size (by repeat (first | (with_reducible first | exact HB.out | apply below_alloc | apply pw_below_drewN | apply below_drew1 | refine below_set ?_ GE272.out) | exact HB.out)))); replace HO278 := As_ (Kd.R_below (by (with_reducible repeat (first | apply Kd.R_alloc | apply Kd.R_drewN | apply Kd.R_drew)); exact HO278.out) hb); replace BK272 := As_ (blk_b hb BK272.out); replace HB := As_ (below_step (by repeat (first | (with_reducible first | exact HB.out | apply below_alloc | apply pw_below_drewN | apply below_drew1 | refine below_set ?_ GE272.out) | exact HB.out)) hb); (try clear hb); (try clear ho0); have hcz19_0 : w18.cell? ⟨gb272, 0, none⟩ = some (.int .i64 a0_0) := (blk_cell BK272.out 0).trans rfl; have hcz19_1 : w18.cell? ⟨gb272, 1, none⟩ = some (.int .i64 a0_1) := (blk_cell BK272.out 1).trans rfl; have hcz19_2 : w18.cell? ⟨gb272, 2, none⟩ = some (.slice A0_2 l0_2.length c0_2) := (blk_cell BK272.out 2).trans rfl; have hfz19_0 := blk_frozen BK272.out 0; have hfz19_1 := blk_frozen BK272.out 1; have hfz19_2 := blk_frozen BK272.out 2) | ((with_reducible refine gate_callee (f := 9) rfl ?_); refine goesL_ (some 26) rfl rfl Try.func9 (by kernel_rfl) rfl #[.agg #[.int .i64 a0_0, .int .i64 a0_1, .slice A0_2 l0_2.length c0_2]] rfl (by (try simp only [List.map_toArray, List.map_cons, List.map_nil]); first | done | rfl | (simp only [List.length_drop, List.length_take]; rfl)) ?_; (with_reducible refine (laws_toCut.calls k a0_0 a0_1 _ _ l0_2 t283 t284 t285 _ ?side1 ?side2 A9.out).mono ?_); (case side1 => repeat (first | exact (Kd.C_below HR0_2.out HB.out) | (with_reducible refine Kd.C_alloc ?_ _) | (with_reducible refine Kd.C_drewN ?_ _) | (with_reducible refine Kd.C_drew ?_))); (case side2 => exact HC0_2.out); rintro e w20 ⟨v286, rfl, ho0, hb⟩; refine ⟨_, rfl, ?_⟩; have HO287 := As_ (Kd.R_lower (Kd.R_new' ho0 (Kd.R_lt (by (with_reducible repeat (first | apply Kd.R_alloc | apply Kd.R_drewN | apply Kd.R_drew)); exact HO278.out))) (below_size (by repeat (first | (with_reducible first | exact HB.out | apply below_alloc | apply pw_below_drewN | apply below_drew1 | refine below_set ?_ GE272.out) | exact HB.out)))); replace HO278 := As_ (Kd.R_elder' (by (with_reducible repeat (first | apply Kd.R_alloc | apply Kd.R_drewN | apply Kd.R_drew)); exact HO278.out) (Kd.R_base ho0) hb); replace HO281 := As_ (Kd.R_below (by (with_reducible repeat (first | apply Kd.R_alloc | apply Kd.R_drewN | apply Kd.R_drew)); exact HO281.out) hb); replace BK272 := As_ (blk_b hb BK272.out); replace HB := As_ (below_step (by repeat (first | (with_reducible first | exact HB.out | apply below_alloc | apply pw_below_drewN | apply below_drew1 | refine below_set ?_ GE272.out) | exact HB.out)) hb); (try clear hb); (try clear ho0)) | ((with_reducible refine gate_dst (N := 6) rfl ?_); refine box_event ?hg (N := 6) ?hd (cs := #[.int .i64 0, .int .i64 0, .slice none 0 0]) (t := 31) ?hr ?_; (case hd => rfl); (case hg => rfl); (case hr => first | (go_simp; done) | (go_simp; rfl)); intro gb288 hg w21 hbox hb; have BK288 := As_ (hbox); have GW288 := As_ ((by rw [hg]; exact (below_size (by repeat (first | (with_reducible first | exact HB.out | apply below_alloc | apply pw_below_drewN | apply below_drew1 | refine below_set ?_ GE272.out) | exact HB.out))) : w.heap.size ≤ gb288)); have GE288 := As_ ((by rw [hg]; exact (below_size (by repeat (first | (with_reducible first | exact HB.out | apply below_alloc | apply pw_below_drewN | apply below_drew1 | refine below_set ?_ GE272.out) | exact HB.out))) : w.heap.size ≤ gb288)); have NB272_288 := As_ (ne_lt hg BK272.out); have NB288_272 := As_ (ne_gt hg BK272.out); replace HO278 := As_ (Kd.R_below (by (with_reducible repeat (first | apply Kd.R_alloc | apply Kd.R_drewN | apply Kd.R_drew)); exact HO278.out) hb); replace HO281 := As_ (Kd.R_below (by (with_reducible repeat (first | apply Kd.R_alloc | apply Kd.R_drewN | apply Kd.R_drew)); exact HO281.out) hb); replace HO287 := As_ (Kd.R_below (by (with_reducible repeat (first | apply Kd.R_alloc | apply Kd.R_drewN | apply Kd.R_drew)); exact HO287.out) hb); replace BK272 := As_ (blk_b hb BK272.out); replace HB := As_ (below_step (by repeat (first | (with_reducible first | exact HB.out | apply below_alloc | apply pw_below_drewN | apply below_drew1 | refine below_set ?_ GE272.out) | exact HB.out)) hb); clear hb hbox hg; have hnb22 := NB288_272.out; have hnc22 := NB272_288.out; have hcz23_0 : w21.cell? ⟨gb288, 0, none⟩ = some (.int .i64 0) := (blk_cell BK288.out 0).trans rfl; have hcz23_1 : w21.cell? ⟨gb288, 1, none⟩ = some (.int .i64 0) := (blk_cell BK288.out 1).trans rfl; have hcz23_2 : w21.cell? ⟨gb288, 2, none⟩ = some (.slice none 0 0) := (blk_cell BK288.out 2).trans rfl; have hfz23_0 := blk_frozen BK288.out 0; have hfz23_1 := blk_frozen BK288.out 1; have hfz23_2 := blk_frozen BK288.out 2; obtain ⟨Ao24, co24, eo24⟩ := Kd.R_slice HO287.out; subst eo24) | ((with_reducible refine gate_callee (f := 10) rfl ?_); refine goesL_ (some 29) rfl rfl Try.func10 (by kernel_rfl) rfl #[.agg #[.int .i64 t283, .int .i64 t284, .slice Ao24 t285.length co24]] rfl (by (try simp only [List.map_toArray, List.map_cons, List.map_nil]); first | done | rfl | (simp only [List.length_drop, List.length_take]; rfl)) ?_; (with_reducible refine (impl_FillSides.calls t283 t284 _ _ t285 t289 t292 _ ?side1 ?side2 A10.out).mono ?_); (case side1 => refine (Kd.R_reads' (e := 87) (base := w.heap.size) (ok := fun k_ => (True ∧ some k_ ≠ (.slice Ao17 t276.length co17 : Value).ownBlock)) (n := t285.length) (c := co24) ?_).2.2; exact (by (with_reducible repeat (first | apply Kd.R_alloc | apply Kd.R_drewN | apply Kd.R_drew)); exact (Kd.R_mono (Kd.R_far (p := ⟨gb288, 2, none⟩) (Kd.R_far (p := ⟨gb288, 1, none⟩) (Kd.R_far (p := ⟨gb288, 0, none⟩) (Kd.R_types HO287.out BK288.out (by decide)) (fun _ hk => hk.2) (.int .i64 t283)) (fun _ hk => hk.2) (.int .i64 t284)) (fun _ hk => hk.2) (.slice Ao24 t285.length co24)) (fun _ h_ => h_.1)))); (case side2 => exact (Kd.R_reads' HO287.out).2.1); rintro e w25 ⟨v290, rfl, ho0, hb⟩; refine ⟨_, rfl, ?_⟩; have HO291 := As_ (Kd.R_lower (Kd.R_new' ho0 (Kd.R_lt (by (with_reducible repeat (first | apply Kd.R_alloc | apply Kd.R_drewN | apply Kd.R_drew)); exact (Kd.R_mono (Kd.R_far (p := ⟨gb288, 2, none⟩) (Kd.R_far (p := ⟨gb288, 1, none⟩) (Kd.R_far (p := ⟨gb288, 0, none⟩) (Kd.R_types HO281.out BK288.out (by decide)) (fun _ hk => hk.2) (.int .i64 t283)) (fun _ hk => hk.2) (.int .i64 t284)) (fun _ hk => hk.2) (.slice Ao24 t285.length co24)) (fun _ h_ => h_.1))))) (below_size (by repeat (first | (with_reducible first | exact HB.out | apply below_alloc | apply pw_below_drewN | apply below_drew1 | refine below_setA ?_ (by assumption)) | exact HB.out)))); replace HO278 := As_ (Kd.R_below (by (with_reducible repeat (first | apply Kd.R_alloc | apply Kd.R_drewN | apply Kd.R_drew)); exact (Kd.R_mono (Kd.R_far (p := ⟨gb288, 2, none⟩) (Kd.R_far (p := ⟨gb288, 1, none⟩) (Kd.R_far (p := ⟨gb288, 0, none⟩) (Kd.R_types HO278.out BK288.out (by decide)) (fun _ hk => hk.2) (.int .i64 t283)) (fun _ hk => hk.2) (.int .i64 t284)) (fun _ hk => hk.2) (.slice Ao24 t285.length co24)) (fun _ h_ => h_.1))) hb); replace HO281 := As_ (Kd.R_elder' (by (with_reducible repeat (first | apply Kd.R_alloc | apply Kd.R_drewN | apply Kd.R_drew)); exact (Kd.R_mono (Kd.R_far (p := ⟨gb288, 2, none⟩) (Kd.R_far (p := ⟨gb288, 1, none⟩) (Kd.R_far (p := ⟨gb288, 0, none⟩) (Kd.R_types HO281.out BK288.out (by decide)) (fun _ hk => hk.2) (.int .i64 t283)) (fun _ hk => hk.2) (.int .i64 t284)) (fun _ hk => hk.2) (.slice Ao24 t285.length co24)) (fun _ h_ => h_.1))) (Kd.R_base ho0) hb); replace HO287 := As_ (Kd.R_below (by (with_reducible repeat (first | apply Kd.R_alloc | apply Kd.R_drewN | apply Kd.R_drew)); exact (Kd.R_mono (Kd.R_far (p := ⟨gb288, 2, none⟩) (Kd.R_far (p := ⟨gb288, 1, none⟩) (Kd.R_far (p := ⟨gb288, 0, none⟩) (Kd.R_types HO287.out BK288.out (by decide)) (fun _ hk => hk.2) (.int .i64 t283)) (fun _ hk => hk.2) (.int .i64 t284)) (fun _ hk => hk.2) (.slice Ao24 t285.length co24)) (fun _ h_ => h_.1))) hb); replace BK272 := As_ (blk_below (g := gb272) (o := .cells #[.int .i64 a0_0, .int .i64 a0_1, .slice A0_2 l0_2.length c0_2] 24 (0, 0)) (by (with_reducible repeat (first | refine blk_drewN ?_ _ | refine blk_drew ?_ | refine blk_alloc ?_ _)); refine blk_far ?_ NB272_288.out _; refine blk_far ?_ NB272_288.out _; refine blk_far ?_ NB272_288.out _; (with_reducible repeat (first | refine blk_drewN ?_ _ | refine blk_drew ?_ | refine blk_alloc ?_ _)); exact BK272.out) hb); replace BK288 := As_ (blk_below (g := gb288) (o := .cells #[.int .i64 t283, .int .i64 t284, .slice Ao24 t285.length co24] 31 (0, 0)) (by (with_reducible repeat (first | refine blk_drewN ?_ _ | refine blk_drew ?_ | refine blk_alloc ?_ _)); refine blk_put (cs := #[.int .i64 t283, .int .i64 t284, .slice none 0 0]) ?_ 2 _ rfl; refine blk_put (cs := #[.int .i64 t283, .int .i64 0, .slice none 0 0]) ?_ 1 _ rfl; refine blk_put (cs := #[.int .i64 0, .int .i64 0, .slice none 0 0]) ?_ 0 _ rfl; (with_reducible repeat (first | refine blk_drewN ?_ _ | refine blk_drew ?_ | refine blk_alloc ?_ _)); exact BK288.out) hb); replace HB := As_ (below_step (by repeat (first | (with_reducible first | exact HB.out | apply below_alloc | apply pw_below_drewN | apply below_drew1 | refine below_setA ?_ (by assumption)) | exact HB.out)) hb); (try clear hb); (try clear ho0)))
    (try simp only [Act.put, sib_, sc0_, sc1_])
    go_cut [40] (fun v40 wc => ∃ (kq : Nat) (x40_10 : Bool), v40 = .bool x40_10 ∧ Aside0 (laws_FnExactFillSides.j0 kq t279 t282 t289 t292 x40_10 a0_0 a0_1 l0_2 t283 t284 t285 = some r) ∧ Aside0 (kq ≤ k) ∧ Aside0 (Kd.R (Kd.int .i64) 3 wc w.heap.size (fun k_ => some k_ ≠ (v290 : Value).ownBlock) v280 t279) ∧ Aside0 (Kd.R (Kd.int .i64) 3 wc w.heap.size (fun k_ => some k_ ≠ (v280 : Value).ownBlock) v290 t289) ∧ Aside0 (Kd.R k87 87 wc w.heap.size (fun _ => True) (.slice Ao24 t285.length co24) t285) ∧ Aside0 (wc.heap[gb272]? = some (.cells #[.int .i64 a0_0, .int .i64 a0_1, (.slice A0_2 l0_2.length c0_2)] 24 (0, 0))) ∧ Aside0 (wc.heap[gb288]? = some (.cells #[.int .i64 t283, .int .i64 t284, (.slice Ao24 t285.length co24)] 31 (0, 0))) ∧ Aside0 (Below w.heap.size w wc))
    case first =>
      have H := HC11.out
      clear HC11
      replace H := Option.bind_eq_some_iff.mp H
      obtain ⟨t293, A260, H⟩ := H
      try dsimp only at H
      have A26 := As_ A260
      clear A260
      by_cases c27 : t293 = true
      · subst c27
        have H1 : (laws_FnExactFillSides.j0 k t279 t282 t289 t292 (t292 != t282) a0_0 a0_1 l0_2 t283 t284 t285) = some r := by rw [if_pos rfl] at H; exact H
        clear H
        have H := H1
        clear H1
        have H' := As_ H
        clear H
        obtain ⟨Ao28, co28, eo28⟩ := Kd.R_slice HO291.out
        subst eo28
        obtain ⟨Ao29, co29, eo29⟩ := Kd.R_slice HO281.out
        subst eo29
        go_wp2_with (first | ((with_reducible refine gate_callee (f := 11) rfl ?_); refine goesL_ (some 34) rfl rfl Try.func11 (by kernel_rfl) rfl #[.slice Ao28 t289.length co28, .slice Ao29 t279.length co29] rfl (by (try simp only [List.map_toArray, List.map_cons, List.map_nil]); first | done | rfl | (simp only [List.length_drop, List.length_take]; rfl)) ?_; (with_reducible refine (laws_eqIntS.calls k _ _ t289 _ _ t279 true _ ?side1 ?side2 ?side3 ?side4 A26.out).mono ?_); (case side1 => repeat (first | exact (Kd.R_reads' HO291.out).2.2 | (with_reducible refine Kd.C_alloc ?_ _) | (with_reducible refine Kd.C_drewN ?_ _) | (with_reducible refine Kd.C_drew ?_))); (case side2 => exact (Kd.R_reads' HO291.out).2.1); (case side3 => repeat (first | exact (Kd.R_reads' HO281.out).2.2 | (with_reducible refine Kd.C_alloc ?_ _) | (with_reducible refine Kd.C_drewN ?_ _) | (with_reducible refine Kd.C_drew ?_))); (case side4 => exact (Kd.R_reads' HO281.out).2.1); rintro e w' ⟨rfl, ⟨nd, rfl⟩⟩; refine ⟨_, rfl, ?_⟩))
        go_meet
        case rel => exact ⟨_, ((t292 != t282)), (by first | rfl | (simp; done) | (simp [*]; done)), H', ⟨by first | omega | exact Nat.le_refl _⟩, ⟨by (with_reducible repeat (first | apply Kd.R_alloc | apply Kd.R_drewN | apply Kd.R_drew)); exact Kd.R_mono HO281.out (fun _ hk => hk.2)⟩, ⟨by (with_reducible repeat (first | apply Kd.R_alloc | apply Kd.R_drewN | apply Kd.R_drew)); exact Kd.R_mono HO291.out (fun _ hk => hk.2)⟩, ⟨by (with_reducible repeat (first | apply Kd.R_alloc | apply Kd.R_drewN | apply Kd.R_drew)); exact Kd.R_mono HO287.out (fun _ hk => trivial)⟩, ⟨by (with_reducible repeat (first | refine blk_drewN ?_ _ | refine blk_drew ?_ | refine blk_alloc ?_ _)); exact BK272.out⟩, ⟨by (with_reducible repeat (first | refine blk_drewN ?_ _ | refine blk_drew ?_ | refine blk_alloc ?_ _)); exact BK288.out⟩, ⟨by repeat (first | (with_reducible first | exact HB.out | apply below_alloc | apply pw_below_drewN | apply below_drew1 | refine below_setA ?_ (by assumption)) | exact HB.out)⟩⟩
      · replace c27 := Bool.eq_false_iff.mpr c27
        subst c27
        have H1 : (laws_FnExactFillSides.j0 k t279 t282 t289 t292 true a0_0 a0_1 l0_2 t283 t284 t285) = some r := by rw [if_neg (show ¬ (false = true) by decide)] at H; exact H
        clear H
        have H := H1
        clear H1
        have H' := As_ H
        clear H
        obtain ⟨Ao30, co30, eo30⟩ := Kd.R_slice HO291.out
        subst eo30
        obtain ⟨Ao31, co31, eo31⟩ := Kd.R_slice HO281.out
        subst eo31
        go_wp2_with (first | ((with_reducible refine gate_callee (f := 11) rfl ?_); refine goesL_ (some 34) rfl rfl Try.func11 (by kernel_rfl) rfl #[.slice Ao30 t289.length co30, .slice Ao31 t279.length co31] rfl (by (try simp only [List.map_toArray, List.map_cons, List.map_nil]); first | done | rfl | (simp only [List.length_drop, List.length_take]; rfl)) ?_; (with_reducible refine (laws_eqIntS.calls k _ _ t289 _ _ t279 false _ ?side1 ?side2 ?side3 ?side4 A26.out).mono ?_); (case side1 => repeat (first | exact (Kd.R_reads' HO291.out).2.2 | (with_reducible refine Kd.C_alloc ?_ _) | (with_reducible refine Kd.C_drewN ?_ _) | (with_reducible refine Kd.C_drew ?_))); (case side2 => exact (Kd.R_reads' HO291.out).2.1); (case side3 => repeat (first | exact (Kd.R_reads' HO281.out).2.2 | (with_reducible refine Kd.C_alloc ?_ _) | (with_reducible refine Kd.C_drewN ?_ _) | (with_reducible refine Kd.C_drew ?_))); (case side4 => exact (Kd.R_reads' HO281.out).2.1); rintro e w' ⟨rfl, ⟨nd, rfl⟩⟩; refine ⟨_, rfl, ?_⟩))
        go_meet
        case rel => exact ⟨_, (true), (by first | rfl | (simp; done) | (simp [*]; done)), H', ⟨by first | omega | exact Nat.le_refl _⟩, ⟨by (with_reducible repeat (first | apply Kd.R_alloc | apply Kd.R_drewN | apply Kd.R_drew)); exact Kd.R_mono HO281.out (fun _ hk => hk.2)⟩, ⟨by (with_reducible repeat (first | apply Kd.R_alloc | apply Kd.R_drewN | apply Kd.R_drew)); exact Kd.R_mono HO291.out (fun _ hk => hk.2)⟩, ⟨by (with_reducible repeat (first | apply Kd.R_alloc | apply Kd.R_drewN | apply Kd.R_drew)); exact Kd.R_mono HO287.out (fun _ hk => trivial)⟩, ⟨by (with_reducible repeat (first | refine blk_drewN ?_ _ | refine blk_drew ?_ | refine blk_alloc ?_ _)); exact BK272.out⟩, ⟨by (with_reducible repeat (first | refine blk_drewN ?_ _ | refine blk_drew ?_ | refine blk_alloc ?_ _)); exact BK288.out⟩, ⟨by repeat (first | (with_reducible first | exact HB.out | apply below_alloc | apply pw_below_drewN | apply below_drew1 | refine below_setA ?_ (by assumption)) | exact HB.out)⟩⟩
    case rest =>
      clear HC11
      try clear c1; try clear c2; try clear p2; try clear c3; try clear c3b0; try clear c7; try clear c8; try clear c9; try clear c10; try clear c11; try clear c22; try clear c27; try clear hcz13_0; try clear hcz13_1; try clear hcz13_2; try clear hcz15_0; try clear hcz15_1; try clear hcz15_2; try clear hcz19_0; try clear hcz19_1; try clear hcz19_2; try clear hcz23_0; try clear hcz23_1; try clear hcz23_2; try clear hcz5_0; try clear hcz5_1; try clear hcz5_2; try clear hfz13_0; try clear hfz13_1; try clear hfz13_2; try clear hfz15_0; try clear hfz15_1; try clear hfz15_2; try clear hfz19_0; try clear hfz19_1; try clear hfz19_2; try clear hfz23_0; try clear hfz23_1; try clear hfz23_2; try clear hfz5_0; try clear hfz5_1; try clear hfz5_2
      obtain ⟨kq, x40_10, rfl, HA, HJ10, HO_4, HO_7, HO_289002, BK272, BK288, HB⟩ := hcut
      rcases kq with _ | kj10
      · exact absurd HA.out (by simp [laws_FnExactFillSides.j0])
      have H := HA.out
      clear HA
      simp only [laws_FnExactFillSides.j0] at H
      by_cases c32 : x40_10 = true
      · subst c32
        have H1 : (none) = some r := by rw [if_pos rfl] at H; exact H
        clear H
        have H := H1
        clear H1
        exact absurd H (by simp)
      replace c32 := Bool.eq_false_iff.mpr c32
      subst c32
      have H1 : ((laws_toCut.f kj10 a0_0 a0_1 l0_2).bind fun bt294 => ((laws_eqCut.f kj10 t283 t284 t285 bt294.1 bt294.2.1 bt294.2.2).bind fun t299 => (if t299 = true then ((laws_markCut.f kj10 t283 t284 t285 1).bind fun bt300 => (if bt300.1 < 0 then (laws_FnExactFillSides.j1 kj10 t279 t282 t289 true a0_0 a0_1 l0_2) else ((laws_eqIntS.f kj10 t289 t279).bind fun t302 => (if t302 = true then (laws_FnExactFillSides.j1 kj10 t279 t282 t289 (t292 != t282) a0_0 a0_1 l0_2) else (laws_FnExactFillSides.j1 kj10 t279 t282 t289 true a0_0 a0_1 l0_2))))) else (none)))) = some r := by rw [if_neg (show ¬ (false = true) by decide)] at H; exact H
      clear H
      have H := H1
      clear H1
      replace H := Option.bind_eq_some_iff.mp H
      obtain ⟨⟨t294, t295, t296⟩, A330, H⟩ := H
      try dsimp only at H
      have A33 := As_ A330
      clear A330
      replace H := Option.bind_eq_some_iff.mp H
      obtain ⟨t299, A340, H⟩ := H
      try dsimp only at H
      have A34 := As_ A340
      clear A340
      by_cases c35 : t299 = true
      case neg =>
        replace c35 := Bool.eq_false_iff.mpr c35
        subst c35
        have H1 : (none) = some r := by rw [if_neg (show ¬ (false = true) by decide)] at H; exact H
        clear H
        have H := H1
        clear H1
        exact absurd H (by simp)

      subst c35
      have H1 : ((laws_markCut.f kj10 t283 t284 t285 1).bind fun bt300 => (if bt300.1 < 0 then (laws_FnExactFillSides.j1 kj10 t279 t282 t289 true a0_0 a0_1 l0_2) else ((laws_eqIntS.f kj10 t289 t279).bind fun t302 => (if t302 = true then (laws_FnExactFillSides.j1 kj10 t279 t282 t289 (t292 != t282) a0_0 a0_1 l0_2) else (laws_FnExactFillSides.j1 kj10 t279 t282 t289 true a0_0 a0_1 l0_2))))) = some r := by rw [if_pos rfl] at H; exact H
      clear H
      have H := H1
      clear H1
      replace H := Option.bind_eq_some_iff.mp H
      obtain ⟨⟨t300, t301⟩, A360, H⟩ := H
      try dsimp only at H
      have A36 := As_ A360
      clear A360
      have HC37 := As_ H
      clear H
      try go_wp2
      replace HO_4 := As_ (Kd.R_drew HO_4.out)
      replace HO_7 := As_ (Kd.R_drew HO_7.out)
      replace HO_289002 := As_ (Kd.R_drew HO_289002.out)
      replace BK272 := As_ (blk_drew BK272.out)
      replace BK288 := As_ (blk_drew BK288.out)
      replace HB := As_ (below_drew1 HB.out)
      refine start_ (n := 5) (S := fun w' => w'.cell? ⟨gb288, 0, none⟩ = some (.int .i64 t283) ∧ w'.cell? ⟨gb288, 1, none⟩ = some (.int .i64 t284) ∧ w'.cell? ⟨gb288, 2, none⟩ = some (.slice Ao24 t285.length co24) ∧ w'.cell? ⟨gb272, 0, none⟩ = some (.int .i64 a0_0) ∧ w'.cell? ⟨gb272, 1, none⟩ = some (.int .i64 a0_1) ∧ w'.cell? ⟨gb272, 2, none⟩ = some (.slice A0_2 l0_2.length c0_2)) (ds := []) #[false, false, false, false, false] (by kernel_rfl) rfl rfl ⟨(blk_cell BK288.out 0).trans rfl, (blk_cell BK288.out 1).trans rfl, (blk_cell BK288.out 2).trans rfl, (blk_cell BK272.out 0).trans rfl, (blk_cell BK272.out 1).trans rfl, (blk_cell BK272.out 2).trans rfl⟩ (fun hHeld => ?_)
      generalize wc.drew = w38 at HO_4 HO_7 HO_289002 BK272 BK288 HB hHeld ⊢
      refine take_ (i := 0) (N := some 41) (v := ?_) (a' := ?_) #[true, false, false, false, false] rfl rfl (by kernel_rfl) (fun _ _ _ h => h) (Or.inl ⟨by rfl, ?_⟩) hHeld ?_ ?_; rotate_left
      · rintro w' ⟨s0, s1, s2, s3, s4, s5⟩
        go_simp
        with_reducible rfl
      rotate_left
      · simp only [Act.put, sib_, sc0_, sc1_, i64_w, i32_w]; rfl
      refine take_ (i := 1) (N := some 42) (v := ?_) (a' := ?_) #[true, true, false, false, false] rfl rfl (by kernel_rfl) (fun _ _ _ h => h) (Or.inl ⟨by rfl, ?_⟩) hHeld ?_ ?_; rotate_left
      · rintro w' ⟨s0, s1, s2, s3, s4, s5⟩
        go_simp
        with_reducible rfl
      rotate_left
      · simp only [Act.put, sib_, sc0_, sc1_, i64_w, i32_w]; rfl
      refine one_ (i := 2) (N := some 43) #[true, true, true, false, false] rfl rfl (by kernel_rfl) (by decide) (fun K hK => ?_)
      refine goes_ Try.func9 (by kernel_rfl) rfl #[.agg #[.int .i64 a0_0, .int .i64 a0_1, .slice A0_2 l0_2.length c0_2]] (by rfl) rfl rfl (by (try simp only [List.map_toArray, List.map_cons, List.map_nil]); first | done | rfl | (simp only [List.length_drop, List.length_take]; rfl)) ?_
      with_reducible refine (laws_toCut.calls kj10 a0_0 a0_1 _ _ l0_2 t294 t295 t296 _ ?side1 ?side2 A33.out).mono ?_
      (case side1 => repeat (first | exact (Kd.C_below HR0_2.out HB.out) | (with_reducible refine Kd.C_alloc ?_ _) | (with_reducible refine Kd.C_drewN ?_ _) | (with_reducible refine Kd.C_drew ?_)))
      (case side2 => exact HC0_2.out)
      rintro e w39 ⟨v297, rfl, ho0, hb⟩
      refine ⟨_, rfl, ?_⟩
      have HO298 := As_ (Kd.R_lower (Kd.R_new' ho0 (Kd.R_lt (by (with_reducible repeat (first | apply Kd.R_alloc | apply Kd.R_drewN | apply Kd.R_drew)); exact HO_289002.out))) (below_size (by repeat (first | (with_reducible first | exact HB.out | apply below_alloc | apply pw_below_drewN | apply below_drew1 | refine below_setA ?_ (by assumption)) | exact HB.out))))
      replace HO_4 := As_ (Kd.R_below (by (with_reducible repeat (first | apply Kd.R_alloc | apply Kd.R_drewN | apply Kd.R_drew)); exact HO_4.out) hb)
      replace HO_7 := As_ (Kd.R_below (by (with_reducible repeat (first | apply Kd.R_alloc | apply Kd.R_drewN | apply Kd.R_drew)); exact HO_7.out) hb)
      replace HO_289002 := As_ (Kd.R_elder' (by (with_reducible repeat (first | apply Kd.R_alloc | apply Kd.R_drewN | apply Kd.R_drew)); exact HO_289002.out) (Kd.R_base ho0) hb)
      replace BK272 := As_ (blk_b hb BK272.out)
      replace BK288 := As_ (blk_b hb BK288.out)
      replace HB := As_ (below_step (by repeat (first | (with_reducible first | exact HB.out | apply below_alloc | apply pw_below_drewN | apply below_drew1 | refine below_setA ?_ (by assumption)) | exact HB.out)) hb)
      (try clear hb)
      (try clear hb2)
      (try clear hk)
      (try clear hi)
      (try clear ho0)
      obtain ⟨Ao40, co40, eo40⟩ := Kd.R_slice HO298.out
      (first | subst eo40 | (injection eo40 with f1_ f2_ f3_; have f4_ := f1_.symm; have f5_ := f3_.symm; clear f1_ f2_ f3_; subst f4_; subst f5_))
      refine hK.out _ _ ⟨(blk_cell BK288.out 0).trans rfl, (blk_cell BK288.out 1).trans rfl, (blk_cell BK288.out 2).trans rfl, (blk_cell BK272.out 0).trans rfl, (blk_cell BK272.out 1).trans rfl, (blk_cell BK272.out 2).trans rfl⟩ (fun hHeld => ?_); clear hK K
      refine norm_ (a' := ?_) ?_ ?_; rotate_left
      · show Act.put _ (some 43) _ = _
        simp only [Act.put, sib_, sc0_, sc1_, i64_w, i32_w]
        rfl
      refine one_ (i := 3) (N := some 44) #[true, true, true, true, false] rfl rfl (by kernel_rfl) (by decide) (fun K hK => ?_)
      refine goes_ Try.func12 (by kernel_rfl) rfl #[.agg #[.int .i64 t283, .int .i64 t284, .slice Ao24 t285.length co24], .agg #[.int .i64 t294, .int .i64 t295, .slice Ao40 t296.length co40]] (by rfl) rfl rfl (by (try simp only [List.map_toArray, List.map_cons, List.map_nil]); first | done | rfl | (simp only [List.length_drop, List.length_take]; rfl)) ?_
      with_reducible refine (laws_eqCut.calls kj10 t283 t284 _ _ t285 t294 t295 _ _ t296 true _ ?side1 ?side2 ?side3 ?side4 A34.out).mono ?_
      (case side1 => repeat (first | exact (Kd.R_reads' HO_289002.out).2.2 | (with_reducible refine Kd.C_alloc ?_ _) | (with_reducible refine Kd.C_drewN ?_ _) | (with_reducible refine Kd.C_drew ?_)))
      (case side2 => exact (Kd.R_reads' HO_289002.out).2.1)
      (case side3 => repeat (first | exact (Kd.R_reads' HO298.out).2.2 | (with_reducible refine Kd.C_alloc ?_ _) | (with_reducible refine Kd.C_drewN ?_ _) | (with_reducible refine Kd.C_drew ?_)))
      (case side4 => exact (Kd.R_reads' HO298.out).2.1)
      rintro e w41 ⟨rfl, hb⟩
      refine ⟨_, rfl, ?_⟩
      replace HO_4 := As_ (Kd.R_below (by (with_reducible repeat (first | apply Kd.R_alloc | apply Kd.R_drewN | apply Kd.R_drew)); exact HO_4.out) hb)
      replace HO_7 := As_ (Kd.R_below (by (with_reducible repeat (first | apply Kd.R_alloc | apply Kd.R_drewN | apply Kd.R_drew)); exact HO_7.out) hb)
      replace HO_289002 := As_ (Kd.R_below (by (with_reducible repeat (first | apply Kd.R_alloc | apply Kd.R_drewN | apply Kd.R_drew)); exact HO_289002.out) hb)
      replace HO298 := As_ (Kd.R_below (by (with_reducible repeat (first | apply Kd.R_alloc | apply Kd.R_drewN | apply Kd.R_drew)); exact HO298.out) hb)
      replace BK272 := As_ (blk_b hb BK272.out)
      replace BK288 := As_ (blk_b hb BK288.out)
      replace HB := As_ (below_step (by repeat (first | (with_reducible first | exact HB.out | apply below_alloc | apply pw_below_drewN | apply below_drew1 | refine below_setA ?_ (by assumption)) | exact HB.out)) hb)
      (try clear hb)
      (try clear hb2)
      (try clear hk)
      (try clear hi)
      refine hK.out _ _ ⟨(blk_cell BK288.out 0).trans rfl, (blk_cell BK288.out 1).trans rfl, (blk_cell BK288.out 2).trans rfl, (blk_cell BK272.out 0).trans rfl, (blk_cell BK272.out 1).trans rfl, (blk_cell BK272.out 2).trans rfl⟩ (fun hHeld => ?_); clear hK K
      refine norm_ (a' := ?_) ?_ ?_; rotate_left
      · show Act.put _ (some 44) _ = _
        simp only [Act.put, sib_, sc0_, sc1_, i64_w, i32_w]
        rfl
      refine pure_ (i := 4) (N := some 45) (v := ?_) (a' := ?_) #[true, true, true, true, true] rfl rfl (by kernel_rfl) (fun _ _ _ h => h) (Or.inl ⟨by rfl, ?_⟩) ?_ ?_; rotate_left
      · intro w'; go_simp; with_reducible rfl
      rotate_left
      · simp only [Act.put, sib_, sc0_, sc1_, i64_w, i32_w]; rfl
      refine done_ (by kernel_rfl) ?_
      have hnb42 := NB288_272.out
      have hnc42 := NB272_288.out
      have hcz43_0 : w41.cell? ⟨gb288, 0, none⟩ = some (.int .i64 t283) := (blk_cell BK288.out 0).trans rfl
      have hcz43_1 : w41.cell? ⟨gb288, 1, none⟩ = some (.int .i64 t284) := (blk_cell BK288.out 1).trans rfl
      have hcz43_2 : w41.cell? ⟨gb288, 2, none⟩ = some (.slice Ao24 t285.length co24) := (blk_cell BK288.out 2).trans rfl
      have hfz43_0 := blk_frozen BK288.out 0
      have hfz43_1 := blk_frozen BK288.out 1
      have hfz43_2 := blk_frozen BK288.out 2
      go_upto_region 14 with (first | ((with_reducible refine gate_callee (f := 13) rfl ?_); refine goesL_ (some 48) rfl rfl Try.func13 (by kernel_rfl) rfl #[.agg #[.int .i64 t283, .int .i64 t284, .slice Ao24 t285.length co24], .int .i64 1] rfl (by (try simp only [List.map_toArray, List.map_cons, List.map_nil]); first | done | rfl | (simp only [List.length_drop, List.length_take]; rfl)) ?_; (with_reducible refine (laws_markCut.calls kj10 t283 t284 (fun k_ => some k_ = (.slice Ao24 t285.length co24 : Value).ownBlock) (.slice Ao24 t285.length co24) t285 1 t300 t301 w _ ?side1 ?side2 A36.out).mono ?_); (case side1 => repeat (first | (with_reducible first | exact HB.out | apply below_alloc | apply pw_below_drewN | apply below_drew1 | refine below_setA ?_ (by assumption)) | exact HB.out)); (case side2 => exact Kd.R_tight rfl HO_289002.out); rintro e w44 ⟨rfl, hy0, hb, hkp⟩; refine ⟨_, rfl, ?_⟩; replace HO_4 := As_ (Kd.R_mono (ok' := fun k_ => some k_ ≠ (v290 : Value).ownBlock) (Kd.R_keptB ((Kd.R_apart' HO_4.out (Kd.R_typed HO_289002.out) (by decide))) hkp (fun k_ hk_ hs_ => (hk_.2) hs_)) (fun k_ hk_ => hk_.1.1)); replace HO_7 := As_ (Kd.R_mono (ok' := fun k_ => some k_ ≠ (v280 : Value).ownBlock) (Kd.R_keptB ((Kd.R_apart' HO_7.out (Kd.R_typed HO_289002.out) (by decide))) hkp (fun k_ hk_ hs_ => (hk_.2) hs_)) (fun k_ hk_ => hk_.1.1)); replace BK272 := As_ (blk_kept BK272.out hkp (fun hs_ => (fun e_ => (Kd.R_ne HO_289002.out BK272.out (by decide)) e_) hs_)); replace BK288 := As_ (blk_kept BK288.out hkp (fun hs_ => (fun e_ => (Kd.R_ne HO_289002.out BK288.out (by decide)) e_) hs_)); replace HO_289002 := As_ (Kd.R_reok rfl hy0 (fun k_ e_ => HO_289002.out.1 k_ e_)); replace HO298 := As_ (Kd.R_mono (ok' := fun k_ => some k_ ≠ (.slice Ao24 t285.length co24 : Value).ownBlock) (Kd.R_keptB (HO298.out) hkp (fun k_ hk_ hs_ => (hk_.2) hs_)) (fun k_ hk_ => hk_.1.2)); replace HB := As_ (hb); (try clear hb); (try clear hkp); (try clear hy0)))
      (try simp only [Act.put, sib_, sc0_, sc1_])
      go_cut [61] (fun v61 wc => ∃ (kq : Nat) (x61_36 : Bool), v61 = .bool x61_36 ∧ Aside0 (laws_FnExactFillSides.j1 kq t279 t282 t289 x61_36 a0_0 a0_1 l0_2 = some r) ∧ Aside0 (kq ≤ kj10) ∧ Aside0 (Kd.R (Kd.int .i64) 3 wc w.heap.size (fun k_ => some k_ ≠ (v290 : Value).ownBlock) v280 t279) ∧ Aside0 (Kd.R (Kd.int .i64) 3 wc w.heap.size (fun k_ => some k_ ≠ (v280 : Value).ownBlock) v290 t289) ∧ Aside0 (Kd.R k87 87 wc w.heap.size (fun _ => True) (.slice Ao24 t285.length co24) t301) ∧ Aside0 (wc.heap[gb272]? = some (.cells #[.int .i64 a0_0, .int .i64 a0_1, (.slice A0_2 l0_2.length c0_2)] 24 (0, 0))) ∧ Aside0 (wc.heap[gb288]? = some (.cells #[.int .i64 t283, .int .i64 t284, (.slice Ao24 t285.length co24)] 31 (0, 0))) ∧ Aside0 (Below w.heap.size w wc))
      case first =>
        have H := HC37.out
        clear HC37
        by_cases c45 : t300 < 0
        · rw [if_pos c45] at H
          have c45b0 : decide (t300 < 0) = true := decide_eq_true c45
          clear c45
          (first | rw [c45b0] | (simp only [i64_w, i32_w]; rw [c45b0]) | skip)
          have H' := As_ H
          clear H
          go_wp2
          go_meet
          case rel => exact ⟨_, (true), (by first | rfl | (simp; done) | (simp [*]; done)), H', ⟨by have := HJ10.out; first | omega | exact Nat.le_refl _⟩, ⟨by (with_reducible repeat (first | apply Kd.R_alloc | apply Kd.R_drewN | apply Kd.R_drew)); exact HO_4.out⟩, ⟨by (with_reducible repeat (first | apply Kd.R_alloc | apply Kd.R_drewN | apply Kd.R_drew)); exact HO_7.out⟩, ⟨by (with_reducible repeat (first | apply Kd.R_alloc | apply Kd.R_drewN | apply Kd.R_drew)); exact Kd.R_mono HO_289002.out (fun _ hk => trivial)⟩, ⟨by (with_reducible repeat (first | refine blk_drewN ?_ _ | refine blk_drew ?_ | refine blk_alloc ?_ _)); exact BK272.out⟩, ⟨by (with_reducible repeat (first | refine blk_drewN ?_ _ | refine blk_drew ?_ | refine blk_alloc ?_ _)); exact BK288.out⟩, ⟨by repeat (first | (with_reducible first | exact HB.out | apply below_alloc | apply pw_below_drewN | apply below_drew1 | refine below_setA ?_ (by assumption)) | exact HB.out)⟩⟩
        · rw [if_neg c45] at H
          have c45b0 : decide (t300 < 0) = false := decide_eq_false c45
          clear c45
          (first | rw [c45b0] | (simp only [i64_w, i32_w]; rw [c45b0]) | skip)
          replace H := Option.bind_eq_some_iff.mp H
          obtain ⟨t302, A460, H⟩ := H
          try dsimp only at H
          have A46 := As_ A460
          clear A460
          by_cases c47 : t302 = true
          · subst c47
            have H1 : (laws_FnExactFillSides.j1 kj10 t279 t282 t289 (t292 != t282) a0_0 a0_1 l0_2) = some r := by rw [if_pos rfl] at H; exact H
            clear H
            have H := H1
            clear H1
            have H' := As_ H
            clear H
            obtain ⟨Ao48, co48, eo48⟩ := Kd.R_slice HO_7.out
            subst eo48
            obtain ⟨Ao49, co49, eo49⟩ := Kd.R_slice HO_4.out
            subst eo49
            go_wp2_with (first | (go_at_call 11; (with_reducible refine (laws_eqIntS.calls kj10 _ _ t289 _ _ t279 true _ ?side1 ?side2 ?side3 ?side4 A46.out).mono ?_); (case side1 => repeat (first | exact (Kd.R_reads' HO_7.out).2.2 | (with_reducible refine Kd.C_alloc ?_ _) | (with_reducible refine Kd.C_drewN ?_ _) | (with_reducible refine Kd.C_drew ?_))); (case side2 => exact (Kd.R_reads' HO_7.out).2.1); (case side3 => repeat (first | exact (Kd.R_reads' HO_4.out).2.2 | (with_reducible refine Kd.C_alloc ?_ _) | (with_reducible refine Kd.C_drewN ?_ _) | (with_reducible refine Kd.C_drew ?_))); (case side4 => exact (Kd.R_reads' HO_4.out).2.1); rintro e w' ⟨rfl, ⟨nd, rfl⟩⟩))
            go_meet
            case rel => exact ⟨_, ((t292 != t282)), (by first | rfl | (simp; done) | (simp [*]; done)), H', ⟨by have := HJ10.out; first | omega | exact Nat.le_refl _⟩, ⟨by (with_reducible repeat (first | apply Kd.R_alloc | apply Kd.R_drewN | apply Kd.R_drew)); exact HO_4.out⟩, ⟨by (with_reducible repeat (first | apply Kd.R_alloc | apply Kd.R_drewN | apply Kd.R_drew)); exact HO_7.out⟩, ⟨by (with_reducible repeat (first | apply Kd.R_alloc | apply Kd.R_drewN | apply Kd.R_drew)); exact Kd.R_mono HO_289002.out (fun _ hk => trivial)⟩, ⟨by (with_reducible repeat (first | refine blk_drewN ?_ _ | refine blk_drew ?_ | refine blk_alloc ?_ _)); exact BK272.out⟩, ⟨by (with_reducible repeat (first | refine blk_drewN ?_ _ | refine blk_drew ?_ | refine blk_alloc ?_ _)); exact BK288.out⟩, ⟨by repeat (first | (with_reducible first | exact HB.out | apply below_alloc | apply pw_below_drewN | apply below_drew1 | refine below_setA ?_ (by assumption)) | exact HB.out)⟩⟩
          · replace c47 := Bool.eq_false_iff.mpr c47
            subst c47
            have H1 : (laws_FnExactFillSides.j1 kj10 t279 t282 t289 true a0_0 a0_1 l0_2) = some r := by rw [if_neg (show ¬ (false = true) by decide)] at H; exact H
            clear H
            have H := H1
            clear H1
            have H' := As_ H
            clear H
            obtain ⟨Ao50, co50, eo50⟩ := Kd.R_slice HO_7.out
            subst eo50
            obtain ⟨Ao51, co51, eo51⟩ := Kd.R_slice HO_4.out
            subst eo51
            go_wp2_with (first | (go_at_call 11; (with_reducible refine (laws_eqIntS.calls kj10 _ _ t289 _ _ t279 false _ ?side1 ?side2 ?side3 ?side4 A46.out).mono ?_); (case side1 => repeat (first | exact (Kd.R_reads' HO_7.out).2.2 | (with_reducible refine Kd.C_alloc ?_ _) | (with_reducible refine Kd.C_drewN ?_ _) | (with_reducible refine Kd.C_drew ?_))); (case side2 => exact (Kd.R_reads' HO_7.out).2.1); (case side3 => repeat (first | exact (Kd.R_reads' HO_4.out).2.2 | (with_reducible refine Kd.C_alloc ?_ _) | (with_reducible refine Kd.C_drewN ?_ _) | (with_reducible refine Kd.C_drew ?_))); (case side4 => exact (Kd.R_reads' HO_4.out).2.1); rintro e w' ⟨rfl, ⟨nd, rfl⟩⟩))
            go_meet
            case rel => exact ⟨_, (true), (by first | rfl | (simp; done) | (simp [*]; done)), H', ⟨by have := HJ10.out; first | omega | exact Nat.le_refl _⟩, ⟨by (with_reducible repeat (first | apply Kd.R_alloc | apply Kd.R_drewN | apply Kd.R_drew)); exact HO_4.out⟩, ⟨by (with_reducible repeat (first | apply Kd.R_alloc | apply Kd.R_drewN | apply Kd.R_drew)); exact HO_7.out⟩, ⟨by (with_reducible repeat (first | apply Kd.R_alloc | apply Kd.R_drewN | apply Kd.R_drew)); exact Kd.R_mono HO_289002.out (fun _ hk => trivial)⟩, ⟨by (with_reducible repeat (first | refine blk_drewN ?_ _ | refine blk_drew ?_ | refine blk_alloc ?_ _)); exact BK272.out⟩, ⟨by (with_reducible repeat (first | refine blk_drewN ?_ _ | refine blk_drew ?_ | refine blk_alloc ?_ _)); exact BK288.out⟩, ⟨by repeat (first | (with_reducible first | exact HB.out | apply below_alloc | apply pw_below_drewN | apply below_drew1 | refine below_setA ?_ (by assumption)) | exact HB.out)⟩⟩
      case rest =>
        clear HC37
        try clear c1; try clear c2; try clear p2; try clear c3; try clear c3b0; try clear c4; try clear c7; try clear c8; try clear c9; try clear c10; try clear c11; try clear c12; try clear c13; try clear c22; try clear c27; try clear c32; try clear c35; try clear c42; try clear c45; try clear c45b0; try clear c47; try clear hcz13_0; try clear hcz13_1; try clear hcz13_2; try clear hcz15_0; try clear hcz15_1; try clear hcz15_2; try clear hcz19_0; try clear hcz19_1; try clear hcz19_2; try clear hcz23_0; try clear hcz23_1; try clear hcz23_2; try clear hcz43_0; try clear hcz43_1; try clear hcz43_2; try clear hcz5_0; try clear hcz5_1; try clear hcz5_2; try clear hfz13_0; try clear hfz13_1; try clear hfz13_2; try clear hfz15_0; try clear hfz15_1; try clear hfz15_2; try clear hfz19_0; try clear hfz19_1; try clear hfz19_2; try clear hfz23_0; try clear hfz23_1; try clear hfz23_2; try clear hfz43_0; try clear hfz43_1; try clear hfz43_2; try clear hfz5_0; try clear hfz5_1; try clear hfz5_2; try clear p2
        obtain ⟨kq, x61_36, rfl, HA, HJ36, HO_4, HO_7, HO_289002, BK272, BK288, HB⟩ := hcut
        have hl289002_36 := (Kd.R_reads' HO_289002.out).1
        rw [hl289002_36] at HO_289002
        (try simp only [hl289002_36])
        (try simp only [hl289002_36] at BK272)
        (try simp only [hl289002_36] at BK288)
        (try simp only [hl289002_36] at HO_4)
        (try simp only [hl289002_36] at HO_7)
        rcases kq with _ | kj36
        · exact absurd HA.out (by simp [laws_FnExactFillSides.j1])
        have H := HA.out
        clear HA
        simp only [laws_FnExactFillSides.j1] at H
        by_cases c52 : x61_36 = true
        · subst c52
          have H1 : (none) = some r := by rw [if_pos rfl] at H; exact H
          clear H
          have H := H1
          clear H1
          exact absurd H (by simp)
        replace c52 := Bool.eq_false_iff.mpr c52
        subst c52
        have H1 : ((laws_markIntS.f kj36 t289 1).bind fun bt303 => ((laws_heldIntS.f kj36 bt303.2 1).bind fun t305 => (if t305 < 0 then (none) else (if t305 = bt303.1 then ((laws_toCut.f kj36 a0_0 a0_1 l0_2).bind fun bt306 => ((impl_FillSides.f bt306.1 bt306.2.1 bt306.2.2).bind fun bt311 => ((laws_eqIntS.f kj36 bt311.1 t279).bind fun t315 => (if t315 = true then (laws_FnExactFillSides.j2 kj36 bt303.2 bt303.1 (bt311.2 != t282)) else (laws_FnExactFillSides.j2 kj36 bt303.2 bt303.1 true))))) else (none))))) = some r := by rw [if_neg (show ¬ (false = true) by decide)] at H; exact H
        clear H
        have H := H1
        clear H1
        replace H := Option.bind_eq_some_iff.mp H
        obtain ⟨⟨t303, t304⟩, A530, H⟩ := H
        try dsimp only at H
        have A53 := As_ A530
        clear A530
        replace H := Option.bind_eq_some_iff.mp H
        obtain ⟨t305, A540, H⟩ := H
        try dsimp only at H
        have A54 := As_ A540
        clear A540
        by_cases c55 : t305 < 0
        · rw [if_pos c55] at H; exact absurd H (by simp)
        rw [if_neg c55] at H
        have c55b0 : decide (t305 < 0) = false := decide_eq_false c55
        clear c55
        by_cases c56 : t305 = t303
        case neg => rw [if_neg c56] at H; exact absurd H (by simp)
        rw [if_pos c56] at H
        have c56b0 : (t305 == t303) = true := beq_iff_eq.mpr c56
        have c56b1 : (t305 != t303) = false := bne_eq_false_iff_eq.mpr c56
        clear c56
        replace H := Option.bind_eq_some_iff.mp H
        obtain ⟨⟨t306, t307, t308⟩, A570, H⟩ := H
        try dsimp only at H
        have A57 := As_ A570
        clear A570
        replace H := Option.bind_eq_some_iff.mp H
        obtain ⟨⟨t311, t314⟩, A580, H⟩ := H
        try dsimp only at H
        have A58 := As_ A580
        clear A580
        have HC59 := As_ H
        clear H
        obtain ⟨Ao60, co60, eo60⟩ := Kd.R_slice HO_7.out
        subst eo60
        go_upto_region 25 with (first | ((with_reducible refine gate_callee (f := 14) rfl ?_); refine goesL_ (some 64) rfl rfl Try.func14 (by kernel_rfl) rfl #[.slice Ao60 t289.length co60, .int .i64 1] rfl (by (try simp only [List.map_toArray, List.map_cons, List.map_nil]); first | done | rfl | (simp only [List.length_drop, List.length_take]; rfl)) ?_; (with_reducible refine (laws_markIntS.calls kj36 (fun k_ => some k_ = (.slice Ao60 t289.length co60 : Value).ownBlock) (.slice Ao60 t289.length co60) t289 1 t303 t304 w _ ?side1 ?side2 A53.out).mono ?_); (case side1 => repeat (first | (with_reducible first | exact HB.out | apply below_alloc | apply pw_below_drewN | apply below_drew1 | refine below_setA ?_ (by assumption)) | exact HB.out)); (case side2 => exact Kd.R_tight rfl HO_7.out); rintro e w61 ⟨rfl, hy0, hb, hkp⟩; refine ⟨_, rfl, ?_⟩; replace HO_4 := As_ (Kd.R_mono (ok' := fun k_ => some k_ ≠ (.slice Ao60 t289.length co60 : Value).ownBlock) (Kd.R_keptB (HO_4.out) hkp (fun k_ hk_ hs_ => (hk_) hs_)) (fun k_ hk_ => hk_.1)); replace HO_289002 := As_ (Kd.R_mono (ok' := fun k_ => True) (Kd.R_keptB ((Kd.R_apart' HO_289002.out (Kd.R_typed HO_7.out) (by decide))) hkp (fun k_ hk_ hs_ => (hk_.2) hs_)) (fun k_ hk_ => trivial)); replace BK272 := As_ (blk_kept BK272.out hkp (fun hs_ => (fun e_ => (Kd.R_ne HO_7.out BK272.out (by decide)) e_) hs_)); replace BK288 := As_ (blk_kept BK288.out hkp (fun hs_ => (fun e_ => (Kd.R_ne HO_7.out BK288.out (by decide)) e_) hs_)); replace HO_7 := As_ (Kd.R_reok rfl hy0 (fun k_ e_ => HO_7.out.1 k_ e_)); replace HB := As_ (hb); (try clear hb); (try clear hkp); (try clear hy0)) | ((with_reducible refine gate_callee (f := 15) rfl ?_); refine goesL_ (some 67) rfl rfl Try.func15 (by kernel_rfl) rfl #[.slice Ao60 t304.length co60, .int .i64 1] rfl (by (try simp only [List.map_toArray, List.map_cons, List.map_nil]); first | done | (rw [show t304.length = t289.length from (Kd.R_reads' HO_7.out).1.symm] <;> rfl) | rfl | (simp only [List.length_drop, List.length_take]; rfl)) ?_; (with_reducible refine (laws_heldIntS.calls kj36 _ _ t304 1 t305 _ ?side1 ?side2 A54.out).mono ?_); (case side1 => repeat (first | exact (Kd.R_reads' HO_7.out).2.2 | (with_reducible refine Kd.C_alloc ?_ _) | (with_reducible refine Kd.C_drewN ?_ _) | (with_reducible refine Kd.C_drew ?_))); (case side2 => rw [show t304.length = t289.length from (Kd.R_reads' HO_7.out).1.symm]; exact (Kd.R_reads' HO_7.out).2.1); rintro e w' ⟨rfl, ⟨nd, rfl⟩⟩; refine ⟨_, rfl, ?_⟩; have hnb62 := NB272_288.out; have hnc62 := NB288_272.out; have hcz63_0 : w61.cell? ⟨gb272, 0, none⟩ = some (.int .i64 a0_0) := (blk_cell BK272.out 0).trans rfl; have hcz63_1 : w61.cell? ⟨gb272, 1, none⟩ = some (.int .i64 a0_1) := (blk_cell BK272.out 1).trans rfl; have hcz63_2 : w61.cell? ⟨gb272, 2, none⟩ = some (.slice A0_2 l0_2.length c0_2) := (blk_cell BK272.out 2).trans rfl; have hfz63_0 := blk_frozen BK272.out 0; have hfz63_1 := blk_frozen BK272.out 1; have hfz63_2 := blk_frozen BK272.out 2) | ((with_reducible refine gate_callee (f := 9) rfl ?_); refine goesL_ (some 75) rfl rfl Try.func9 (by kernel_rfl) rfl #[.agg #[.int .i64 a0_0, .int .i64 a0_1, .slice A0_2 l0_2.length c0_2]] rfl (by (try simp only [List.map_toArray, List.map_cons, List.map_nil]); first | done | rfl | (simp only [List.length_drop, List.length_take]; rfl)) ?_; (with_reducible refine (laws_toCut.calls kj36 a0_0 a0_1 _ _ l0_2 t306 t307 t308 _ ?side1 ?side2 A57.out).mono ?_); (case side1 => repeat (first | exact (Kd.C_below HR0_2.out (by repeat (first | (with_reducible first | exact HB.out | apply below_alloc | apply pw_below_drewN | apply below_drew1 | refine below_setA ?_ (by assumption)) | exact HB.out))) | (with_reducible refine Kd.C_alloc ?_ _) | (with_reducible refine Kd.C_drewN ?_ _) | (with_reducible refine Kd.C_drew ?_))); (case side2 => exact HC0_2.out); rintro e w64 ⟨v309, rfl, ho0, hb⟩; refine ⟨_, rfl, ?_⟩; have HO310 := As_ (Kd.R_lower (Kd.R_new' ho0 (Kd.R_lt (by (with_reducible repeat (first | apply Kd.R_alloc | apply Kd.R_drewN | apply Kd.R_drew)); exact HO_289002.out))) (below_size (by repeat (first | (with_reducible first | exact HB.out | apply below_alloc | apply pw_below_drewN | apply below_drew1 | refine below_setA ?_ (by assumption)) | exact HB.out)))); replace HO_4 := As_ (Kd.R_below (by (with_reducible repeat (first | apply Kd.R_alloc | apply Kd.R_drewN | apply Kd.R_drew)); exact HO_4.out) hb); replace HO_7 := As_ (Kd.R_below (by (with_reducible repeat (first | apply Kd.R_alloc | apply Kd.R_drewN | apply Kd.R_drew)); exact HO_7.out) hb); replace HO_289002 := As_ (Kd.R_elder' (by (with_reducible repeat (first | apply Kd.R_alloc | apply Kd.R_drewN | apply Kd.R_drew)); exact HO_289002.out) (Kd.R_base ho0) hb); replace BK272 := As_ (blk_b hb BK272.out); replace BK288 := As_ (blk_b hb BK288.out); replace HB := As_ (below_step (by repeat (first | (with_reducible first | exact HB.out | apply below_alloc | apply pw_below_drewN | apply below_drew1 | refine below_setA ?_ (by assumption)) | exact HB.out)) hb); (try clear hb); (try clear ho0); obtain ⟨Ao65, co65, eo65⟩ := Kd.R_slice HO310.out; subst eo65) | ((with_reducible refine gate_callee (f := 10) rfl ?_); refine goesL_ (some 76) rfl rfl Try.func10 (by kernel_rfl) rfl #[.agg #[.int .i64 t306, .int .i64 t307, .slice Ao65 t308.length co65]] rfl (by (try simp only [List.map_toArray, List.map_cons, List.map_nil]); first | done | rfl | (simp only [List.length_drop, List.length_take]; rfl)) ?_; (with_reducible refine (impl_FillSides.calls t306 t307 _ _ t308 t311 t314 _ ?side1 ?side2 A58.out).mono ?_); (case side1 => repeat (first | exact (Kd.R_reads' HO310.out).2.2 | (with_reducible refine Kd.C_alloc ?_ _) | (with_reducible refine Kd.C_drewN ?_ _) | (with_reducible refine Kd.C_drew ?_))); (case side2 => exact (Kd.R_reads' HO310.out).2.1); rintro e w66 ⟨v312, rfl, ho0, hb⟩; refine ⟨_, rfl, ?_⟩; have HO313 := As_ (Kd.R_lower (Kd.R_new' (Kd.R_new' ho0 (Kd.R_lt (by (with_reducible repeat (first | apply Kd.R_alloc | apply Kd.R_drewN | apply Kd.R_drew)); exact HO_4.out))) (Kd.R_lt (by (with_reducible repeat (first | apply Kd.R_alloc | apply Kd.R_drewN | apply Kd.R_drew)); exact HO_7.out))) (below_size (by repeat (first | (with_reducible first | exact HB.out | apply below_alloc | apply pw_below_drewN | apply below_drew1 | refine below_setA ?_ (by assumption)) | exact HB.out)))); replace HO_4 := As_ (Kd.R_elder' (by (with_reducible repeat (first | apply Kd.R_alloc | apply Kd.R_drewN | apply Kd.R_drew)); exact HO_4.out) (Kd.R_base ho0) hb); replace HO_7 := As_ (Kd.R_elder' (by (with_reducible repeat (first | apply Kd.R_alloc | apply Kd.R_drewN | apply Kd.R_drew)); exact HO_7.out) (Kd.R_base ho0) hb); replace HO_289002 := As_ (Kd.R_below (by (with_reducible repeat (first | apply Kd.R_alloc | apply Kd.R_drewN | apply Kd.R_drew)); exact HO_289002.out) hb); replace HO310 := As_ (Kd.R_below (by (with_reducible repeat (first | apply Kd.R_alloc | apply Kd.R_drewN | apply Kd.R_drew)); exact HO310.out) hb); replace BK272 := As_ (blk_b hb BK272.out); replace BK288 := As_ (blk_b hb BK288.out); replace HB := As_ (below_step (by repeat (first | (with_reducible first | exact HB.out | apply below_alloc | apply pw_below_drewN | apply below_drew1 | refine below_setA ?_ (by assumption)) | exact HB.out)) hb); (try clear hb); (try clear ho0)))
        (try simp only [Act.put, sib_, sc0_, sc1_])
        go_cut [87] (fun v87 wc => ∃ (kq : Nat) (x87_58 : Bool), v87 = .bool x87_58 ∧ Aside0 (laws_FnExactFillSides.j2 kq t304 t303 x87_58 = some r) ∧ Aside0 (kq ≤ kj36) ∧ Aside0 (Kd.R (Kd.int .i64) 3 wc w.heap.size (fun _ => True) (.slice Ao60 t289.length co60) t304) ∧ Aside0 (Kd.R k87 87 wc w.heap.size (fun _ => True) (.slice Ao24 t301.length co24) t301) ∧ Aside0 (wc.heap[gb272]? = some (.cells #[.int .i64 a0_0, .int .i64 a0_1, (.slice A0_2 l0_2.length c0_2)] 24 (0, 0))) ∧ Aside0 (wc.heap[gb288]? = some (.cells #[.int .i64 t283, .int .i64 t284, (.slice Ao24 t301.length co24)] 31 (0, 0))) ∧ Aside0 (Below w.heap.size w wc))
        case first =>
          have H := HC59.out
          clear HC59
          replace H := Option.bind_eq_some_iff.mp H
          obtain ⟨t315, A670, H⟩ := H
          try dsimp only at H
          have A67 := As_ A670
          clear A670
          by_cases c68 : t315 = true
          · subst c68
            have H1 : (laws_FnExactFillSides.j2 kj36 t304 t303 (t314 != t282)) = some r := by rw [if_pos rfl] at H; exact H
            clear H
            have H := H1
            clear H1
            have H' := As_ H
            clear H
            obtain ⟨Ao69, co69, eo69⟩ := Kd.R_slice HO313.out
            subst eo69
            obtain ⟨Ao70, co70, eo70⟩ := Kd.R_slice HO_4.out
            subst eo70
            go_wp2_with (first | ((with_reducible refine gate_callee (f := 11) rfl ?_); refine goesL_ (some 81) rfl rfl Try.func11 (by kernel_rfl) rfl #[.slice Ao69 t311.length co69, .slice Ao70 t279.length co70] rfl (by (try simp only [List.map_toArray, List.map_cons, List.map_nil]); first | done | rfl | (simp only [List.length_drop, List.length_take]; rfl)) ?_; (with_reducible refine (laws_eqIntS.calls kj36 _ _ t311 _ _ t279 true _ ?side1 ?side2 ?side3 ?side4 A67.out).mono ?_); (case side1 => repeat (first | exact (Kd.R_reads' HO313.out).2.2 | (with_reducible refine Kd.C_alloc ?_ _) | (with_reducible refine Kd.C_drewN ?_ _) | (with_reducible refine Kd.C_drew ?_))); (case side2 => exact (Kd.R_reads' HO313.out).2.1); (case side3 => repeat (first | exact (Kd.R_reads' HO_4.out).2.2 | (with_reducible refine Kd.C_alloc ?_ _) | (with_reducible refine Kd.C_drewN ?_ _) | (with_reducible refine Kd.C_drew ?_))); (case side4 => exact (Kd.R_reads' HO_4.out).2.1); rintro e w' ⟨rfl, ⟨nd, rfl⟩⟩; refine ⟨_, rfl, ?_⟩))
            go_meet
            case rel => exact ⟨_, ((t314 != t282)), (by first | rfl | (simp; done) | (simp [*]; done)), H', ⟨by have := HJ10.out; have := HJ36.out; first | omega | exact Nat.le_refl _⟩, ⟨by (try simp only [hl289002_36]); (with_reducible repeat (first | apply Kd.R_alloc | apply Kd.R_drewN | apply Kd.R_drew)); exact Kd.R_mono HO_7.out (fun _ hk => trivial)⟩, ⟨by (try simp only [hl289002_36]); (with_reducible repeat (first | apply Kd.R_alloc | apply Kd.R_drewN | apply Kd.R_drew)); exact Kd.R_mono HO_289002.out (fun _ hk => trivial)⟩, ⟨by (try simp only [hl289002_36]); (with_reducible repeat (first | refine blk_drewN ?_ _ | refine blk_drew ?_ | refine blk_alloc ?_ _)); exact BK272.out⟩, ⟨by (try simp only [hl289002_36]); (with_reducible repeat (first | refine blk_drewN ?_ _ | refine blk_drew ?_ | refine blk_alloc ?_ _)); exact BK288.out⟩, ⟨by repeat (first | (with_reducible first | exact HB.out | apply below_alloc | apply pw_below_drewN | apply below_drew1 | refine below_setA ?_ (by assumption)) | exact HB.out)⟩⟩
          · replace c68 := Bool.eq_false_iff.mpr c68
            subst c68
            have H1 : (laws_FnExactFillSides.j2 kj36 t304 t303 true) = some r := by rw [if_neg (show ¬ (false = true) by decide)] at H; exact H
            clear H
            have H := H1
            clear H1
            have H' := As_ H
            clear H
            obtain ⟨Ao71, co71, eo71⟩ := Kd.R_slice HO313.out
            subst eo71
            obtain ⟨Ao72, co72, eo72⟩ := Kd.R_slice HO_4.out
            subst eo72
            go_wp2_with (first | ((with_reducible refine gate_callee (f := 11) rfl ?_); refine goesL_ (some 81) rfl rfl Try.func11 (by kernel_rfl) rfl #[.slice Ao71 t311.length co71, .slice Ao72 t279.length co72] rfl (by (try simp only [List.map_toArray, List.map_cons, List.map_nil]); first | done | rfl | (simp only [List.length_drop, List.length_take]; rfl)) ?_; (with_reducible refine (laws_eqIntS.calls kj36 _ _ t311 _ _ t279 false _ ?side1 ?side2 ?side3 ?side4 A67.out).mono ?_); (case side1 => repeat (first | exact (Kd.R_reads' HO313.out).2.2 | (with_reducible refine Kd.C_alloc ?_ _) | (with_reducible refine Kd.C_drewN ?_ _) | (with_reducible refine Kd.C_drew ?_))); (case side2 => exact (Kd.R_reads' HO313.out).2.1); (case side3 => repeat (first | exact (Kd.R_reads' HO_4.out).2.2 | (with_reducible refine Kd.C_alloc ?_ _) | (with_reducible refine Kd.C_drewN ?_ _) | (with_reducible refine Kd.C_drew ?_))); (case side4 => exact (Kd.R_reads' HO_4.out).2.1); rintro e w' ⟨rfl, ⟨nd, rfl⟩⟩; refine ⟨_, rfl, ?_⟩))
            go_meet
            case rel => exact ⟨_, (true), (by first | rfl | (simp; done) | (simp [*]; done)), H', ⟨by have := HJ10.out; have := HJ36.out; first | omega | exact Nat.le_refl _⟩, ⟨by (try simp only [hl289002_36]); (with_reducible repeat (first | apply Kd.R_alloc | apply Kd.R_drewN | apply Kd.R_drew)); exact Kd.R_mono HO_7.out (fun _ hk => trivial)⟩, ⟨by (try simp only [hl289002_36]); (with_reducible repeat (first | apply Kd.R_alloc | apply Kd.R_drewN | apply Kd.R_drew)); exact Kd.R_mono HO_289002.out (fun _ hk => trivial)⟩, ⟨by (try simp only [hl289002_36]); (with_reducible repeat (first | refine blk_drewN ?_ _ | refine blk_drew ?_ | refine blk_alloc ?_ _)); exact BK272.out⟩, ⟨by (try simp only [hl289002_36]); (with_reducible repeat (first | refine blk_drewN ?_ _ | refine blk_drew ?_ | refine blk_alloc ?_ _)); exact BK288.out⟩, ⟨by repeat (first | (with_reducible first | exact HB.out | apply below_alloc | apply pw_below_drewN | apply below_drew1 | refine below_setA ?_ (by assumption)) | exact HB.out)⟩⟩
        case rest =>
          clear HC59
          try clear c1; try clear c2; try clear p2; try clear c3; try clear c3b0; try clear c4; try clear c5; try clear c6; try clear c7; try clear c8; try clear c9; try clear c10; try clear c11; try clear c12; try clear c13; try clear c14; try clear c15; try clear c22; try clear c27; try clear c32; try clear c35; try clear c42; try clear c45; try clear c45b0; try clear c47; try clear c52; try clear c55; try clear c55b0; try clear c56; try clear c56b0; try clear c56b1; try clear c62; try clear c68; try clear hcz13_0; try clear hcz13_1; try clear hcz13_2; try clear hcz15_0; try clear hcz15_1; try clear hcz15_2; try clear hcz19_0; try clear hcz19_1; try clear hcz19_2; try clear hcz23_0; try clear hcz23_1; try clear hcz23_2; try clear hcz43_0; try clear hcz43_1; try clear hcz43_2; try clear hcz5_0; try clear hcz5_1; try clear hcz5_2; try clear hcz63_0; try clear hcz63_1; try clear hcz63_2; try clear hfz13_0; try clear hfz13_1; try clear hfz13_2; try clear hfz15_0; try clear hfz15_1; try clear hfz15_2; try clear hfz19_0; try clear hfz19_1; try clear hfz19_2; try clear hfz23_0; try clear hfz23_1; try clear hfz23_2; try clear hfz43_0; try clear hfz43_1; try clear hfz43_2; try clear hfz5_0; try clear hfz5_1; try clear hfz5_2; try clear hfz63_0; try clear hfz63_1; try clear hfz63_2; try clear p2
          obtain ⟨kq, x87_58, rfl, HA, HJ58, HO_7, HO_289002, BK272, BK288, HB⟩ := hcut
          have hl7_58 := (Kd.R_reads' HO_7.out).1
          rw [hl7_58] at HO_7
          (try simp only [hl7_58])
          (try simp only [hl7_58] at BK272)
          (try simp only [hl7_58] at BK288)
          (try simp only [hl7_58] at HO_289002)
          rcases kq with _ | kj58
          · exact absurd HA.out (by simp [laws_FnExactFillSides.j2])
          have H := HA.out
          clear HA
          simp only [laws_FnExactFillSides.j2] at H
          by_cases c73 : x87_58 = true
          · subst c73
            have H1 : (none) = some r := by rw [if_pos rfl] at H; exact H
            clear H
            have H := H1
            clear H1
            exact absurd H (by simp)
          replace c73 := Bool.eq_false_iff.mpr c73
          subst c73
          have H1 : ((laws_heldIntS.f kj58 t304 1).bind fun t316 => (if t316 < 0 then (none) else (if t316 = t303 then (some true) else (none)))) = some r := by rw [if_neg (show ¬ (false = true) by decide)] at H; exact H
          clear H
          have H := H1
          clear H1
          replace H := Option.bind_eq_some_iff.mp H
          obtain ⟨t316, A740, H⟩ := H
          try dsimp only at H
          have A74 := As_ A740
          clear A740
          by_cases c75 : t316 < 0
          · rw [if_pos c75] at H; exact absurd H (by simp)
          rw [if_neg c75] at H
          have c75b0 : decide (t316 < 0) = false := decide_eq_false c75
          clear c75
          by_cases c76 : t316 = t303
          case neg => rw [if_neg c76] at H; exact absurd H (by simp)
          rw [if_pos c76] at H
          have c76b0 : (t316 == t303) = true := beq_iff_eq.mpr c76
          have c76b1 : (t316 != t303) = false := bne_eq_false_iff_eq.mpr c76
          clear c76
          obtain rfl := Option.some.inj H
          go_wp2_with (first | ((with_reducible refine gate_callee (f := 15) rfl ?_); refine goesL_ (some 90) rfl rfl Try.func15 (by kernel_rfl) rfl #[.slice Ao60 t304.length co60, .int .i64 1] rfl (by (try simp only [List.map_toArray, List.map_cons, List.map_nil]); first | done | rfl | (simp only [List.length_drop, List.length_take]; rfl)) ?_; (with_reducible refine (laws_heldIntS.calls kj58 _ _ t304 1 t316 _ ?side1 ?side2 A74.out).mono ?_); (case side1 => repeat (first | exact (Kd.R_reads' HO_7.out).2.2 | (with_reducible refine Kd.C_alloc ?_ _) | (with_reducible refine Kd.C_drewN ?_ _) | (with_reducible refine Kd.C_drew ?_))); (case side2 => exact (Kd.R_reads' HO_7.out).2.1); rintro e w' ⟨rfl, ⟨nd, rfl⟩⟩; refine ⟨_, rfl, ?_⟩))
          go_ret
          exact ⟨by first | rfl | (simp [errW_none, errW_some] <;> rfl) | (simp [*, errW_none, errW_some] <;> rfl), by repeat (first | (with_reducible first | exact HB.out | apply below_alloc | apply pw_below_drewN | apply below_drew1 | refine below_setA ?_ (by assumption)) | exact HB.out)⟩
end Go.Proofs.Ytipiaiolhhnnhaa.PFnExactFillSides
