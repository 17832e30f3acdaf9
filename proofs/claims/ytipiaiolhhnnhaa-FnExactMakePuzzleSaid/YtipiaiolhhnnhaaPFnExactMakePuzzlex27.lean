-- Written by a program of this session (wip/tools/pg.py) out of the translation.
import Derived.Test.YtipiaiolhhnnhaaPFnExactMakePuzzlex0
import Derived.Test.YtipiaiolhhnnhaaPFnExactMakePuzzlex1
import Derived.Test.YtipiaiolhhnnhaaPFnExactMakePuzzlex2
import Derived.Test.YtipiaiolhhnnhaaPFnExactMakePuzzlex10
import Derived.Test.YtipiaiolhhnnhaaPFnExactMakePuzzlex24
import Derived.Test.YtipiaiolhhnnhaaPFnExactMakePuzzlex25
import Derived.Test.YtipiaiolhhnnhaaPFnExactMakePuzzlex26
namespace Go.Proofs.Ytipiaiolhhnnhaa.PFnExactMakePuzzle
open Go.RowKit Go.Proofs.YtipiaiolhhnnhaaW.PrintWords Go.Proofs.YtipiaiolhhnnhaaW.PrintLast Go.Proofs.YtipiaiolhhnnhaaW.PrintMore Go.Proofs.YtipiaiolhhnnhaaH
attribute [local go_sem] max2_int min2_int max_two min_two max_three min_three max_four min_four   -- for this text's walks alone
set_option linter.unusedVariables false
set_option linter.unusedSimpArgs false

/-! ### laws_FnExactMakePuzzle: function 5 -/
mutual
def laws_FnExactMakePuzzle.j0 : Nat → Int → Int → Bool → Bool → Bool → Int → Int → List (S89) → Int → Int → List (S42) → Int → Int → List (S87) → Int → Int → List (S42) → Option (Bool)
 | 0, _, _, _, _, _, _, _, _, _, _, _, _, _, _, _, _, _ => none
 | k + 1, x1, x2, x9, x12, x48, x387000, x387001, x387002, x400000, x400001, x400002, x406000, x406001, x406002, x413000, x413001, x413002 => if x48 = true then (none) else ((laws_toCut.f k x387000 x387001 x387002).bind fun bt414 => ((laws_eqCut.f k x406000 x406001 x406002 bt414.1 bt414.2.1 bt414.2.2).bind fun t419 => (if t419 = true then ((laws_markCut.f k x406000 x406001 x406002 1).bind fun bt420 => (if bt420.1 < 0 then (laws_FnExactMakePuzzle.j1 k x1 x2 x9 true x387000 x387001 x387002 x400000 x400001 x400002 x413000 x413001 x413002) else ((laws_eqPuzzle.f k x413000 x413001 x413002 x400000 x400001 x400002).bind fun t422 => (if t422 = true then (laws_FnExactMakePuzzle.j1 k x1 x2 x9 (x12 != x9) x387000 x387001 x387002 x400000 x400001 x400002 x413000 x413001 x413002) else (laws_FnExactMakePuzzle.j1 k x1 x2 x9 true x387000 x387001 x387002 x400000 x400001 x400002 x413000 x413001 x413002))))) else (none))))
def laws_FnExactMakePuzzle.j1 : Nat → Int → Int → Bool → Bool → Int → Int → List (S89) → Int → Int → List (S42) → Int → Int → List (S42) → Option (Bool)
 | 0, _, _, _, _, _, _, _, _, _, _, _, _, _ => none
 | k + 1, x1, x2, x9, x69, x387000, x387001, x387002, x400000, x400001, x400002, x413000, x413001, x413002 => if x69 = true then (none) else ((laws_markPuzzle.f k x413000 x413001 x413002 1).bind fun bt423 => ((laws_heldPuzzle.f k x413000 x413001 bt423.2 1).bind fun t425 => (if t425 < 0 then (none) else (if t425 = bt423.1 then ((laws_toCut.f k x387000 x387001 x387002).bind fun bt426 => ((impl_MakePuzzle.f k bt426.1 bt426.2.1 bt426.2.2 x1 x2).bind fun bt431 => ((laws_eqPuzzle.f k bt431.1 bt431.2.1 bt431.2.2.1 x400000 x400001 x400002).bind fun t438 => (if t438 = true then (laws_FnExactMakePuzzle.j2 k bt423.1 (bt431.2.2.2 != x9) x413000 x413001 bt423.2) else (laws_FnExactMakePuzzle.j2 k bt423.1 true x413000 x413001 bt423.2))))) else (none)))))
def laws_FnExactMakePuzzle.j2 : Nat → Int → Bool → Int → Int → List (S42) → Option (Bool)
 | 0, _, _, _, _, _ => none
 | k + 1, x14, x97, x413000, x413001, x413002 => if x97 = true then (none) else ((laws_heldPuzzle.f k x413000 x413001 x413002 1).bind fun t439 => (if t439 < 0 then (none) else (if t439 = x14 then (some true) else (none))))
end
def laws_FnExactMakePuzzle.f (k : Nat) (a0_0 : Int) (a0_1 : Int) (l0_2 : List (S89)) (a1 : Int) (a2 : Int) : Option (Bool) := (laws_szCut.f a0_0 a0_1 l0_2 1048576).bind fun t387 => (if t387 < 0 then (some true) else ((laws_toCut.f k a0_0 a0_1 l0_2).bind fun bt388 => ((spec_MakePuzzle.f k bt388.1 bt388.2.1 bt388.2.2 a1 a2).bind fun bt393 => ((laws_toCut.f k a0_0 a0_1 l0_2).bind fun bt400 => ((impl_MakePuzzle.f k bt400.1 bt400.2.1 bt400.2.2 a1 a2).bind fun bt406 => ((laws_eqPuzzle.f k bt406.1 bt406.2.1 bt406.2.2.1 bt393.1 bt393.2.1 bt393.2.2.1).bind fun t413 => (if t413 = true then (laws_FnExactMakePuzzle.j0 k a1 a2 bt393.2.2.2 bt406.2.2.2 (bt406.2.2.2 != bt393.2.2.2) a0_0 a0_1 l0_2 bt393.1 bt393.2.1 bt393.2.2.1 bt400.1 bt400.2.1 bt400.2.2 bt406.1 bt406.2.1 bt406.2.2.1) else (laws_FnExactMakePuzzle.j0 k a1 a2 bt393.2.2.2 bt406.2.2.2 true a0_0 a0_1 l0_2 bt393.1 bt393.2.1 bt393.2.2.1 bt400.1 bt400.2.1 bt400.2.2 bt406.1 bt406.2.1 bt406.2.2.1))))))))
set_option maxHeartbeats 8000000 in
set_option maxRecDepth 100000 in
theorem laws_FnExactMakePuzzle.calls (k : Nat) (a0_0 : Int) (a0_1 : Int) (A0_2 : Option Addr) (c0_2 : Nat) (l0_2 : List (S89)) (a1 : Int) (a2 : Int) (r : Bool) (w : World) (hr0_2 : Kd.C k89 w A0_2 l0_2.length l0_2) (hc0_2 : l0_2.length ≤ c0_2) (h : laws_FnExactMakePuzzle.f k a0_0 a0_1 l0_2 a1 a2 = some r) :
  Calls Try.prog 5 #[.agg #[.int .i64 a0_0, .int .i64 a0_1, .slice A0_2 l0_2.length c0_2], .int .i64 a1, .int .i64 a2] w fun e w' => e = .returned (.bool r) ∧ Below w.heap.size w w' := by
 have hu24 := Try.underlying24
 have hu47 := Try.underlying47
 have hu31 := Try.underlying31
 have HR0_2 := As_ hr0_2
 have HC0_2 := As_ hc0_2
 clear hr0_2 hc0_2
 have HB := As_ (Below.refl w.heap.size w)
 have H : ((laws_szCut.f a0_0 a0_1 l0_2 1048576).bind fun t387 => (if t387 < 0 then (some true) else ((laws_toCut.f k a0_0 a0_1 l0_2).bind fun bt388 => ((spec_MakePuzzle.f k bt388.1 bt388.2.1 bt388.2.2 a1 a2).bind fun bt393 => ((laws_toCut.f k a0_0 a0_1 l0_2).bind fun bt400 => ((impl_MakePuzzle.f k bt400.1 bt400.2.1 bt400.2.2 a1 a2).bind fun bt406 => ((laws_eqPuzzle.f k bt406.1 bt406.2.1 bt406.2.2.1 bt393.1 bt393.2.1 bt393.2.2.1).bind fun t413 => (if t413 = true then (laws_FnExactMakePuzzle.j0 k a1 a2 bt393.2.2.2 bt406.2.2.2 (bt406.2.2.2 != bt393.2.2.2) a0_0 a0_1 l0_2 bt393.1 bt393.2.1 bt393.2.2.1 bt400.1 bt400.2.1 bt400.2.2 bt406.1 bt406.2.1 bt406.2.2.1) else (laws_FnExactMakePuzzle.j0 k a1 a2 bt393.2.2.2 bt406.2.2.2 true a0_0 a0_1 l0_2 bt393.1 bt393.2.1 bt393.2.2.1 bt400.1 bt400.2.1 bt400.2.2 bt406.1 bt406.2.1 bt406.2.2.1))))))))) = some r := h
 clear h
 replace H := Option.bind_eq_some_iff.mp H
 obtain ⟨t387, A40, H⟩ := H
 try dsimp only at H
 have A4 := As_ A40
 clear A40
 by_cases c5 : t387 < 0
 ·
  rw [if_pos c5] at H
  have c5b0 : decide (t387 < 0) = true := decide_eq_true c5
  clear c5
  obtain rfl := Option.some.inj H
  go_enter Try.func5, Try.ntmps5
  go_wp2_with (first | ((with_reducible refine gate_dst (N := 3) rfl ?_); refine box_event rfl (N := 3) rfl (cs := #[.int .i64 a0_0, .int .i64 a0_1, .slice A0_2 l0_2.length c0_2]) (t := 24) ?hr ?_; (case hr => first | (go_simp; done) | (go_simp; rfl)); intro gb386 hg w6 hbox hb; have BK386 := As_ (hbox); have hW_ := bel_ w hb (by repeat (first | (with_reducible first | exact HB.out | apply ba_ | apply bn_ | apply bd_) | exact HB.out)); have GE386 := As_ (gesz hg hW_); replace HB := As_ (below_step hW_ hb); clear hW_ hb hbox hg; obtain ⟨hcz7_0, hcz7_1, hcz7_2⟩ := c3_ (w := w6) BK386.out; obtain ⟨hfz7_0, hfz7_1, hfz7_2⟩ := z3_ BK386.out) | ((with_reducible refine gate_callee (f := 7) rfl ?_); refine goesL_ (some 20) rfl rfl Try.func7 (by kernel_rfl) rfl #[.agg #[.int .i64 a0_0, .int .i64 a0_1, .slice A0_2 l0_2.length c0_2], .int .i64 1048576] rfl (by (try simp only [List.map_toArray, List.map_cons, List.map_nil]); first | done | rfl | (simp only [List.length_drop, List.length_take]; rfl)) ?_; (with_reducible refine (laws_szCut.calls a0_0 a0_1 _ _ l0_2 1048576 t387 _ ?side1 ?side2 A4.out).mono ?_); (case side1 => repeat (first | exact (Kd.C_below HR0_2.out HB.out) | (with_reducible refine Kd.C_alloc ?_ _) | (with_reducible refine Kd.C_drewN ?_ _) | (with_reducible refine Kd.C_drew ?_))); (case side2 => exact HC0_2.out); rintro e w8 ⟨rfl, hb⟩; refine ⟨_, rfl, ?_⟩; replace BK386 := As_ (blk_b hb BK386.out); replace HB := As_ (below_step (by repeat (first | (with_reducible first | exact HB.out | apply ba_ | apply bn_ | apply bd_ | refine bs_ ?_ GE386.out) | exact HB.out)) hb); (try clear hb)))
  go_ret
  exact ⟨by first | rfl | (simp <;> rfl) | (simp [*] <;> rfl), by repeat (first | (with_reducible first | exact HB.out | apply ba_ | apply bn_ | apply bd_ | refine bs_ ?_ GE386.out) | exact HB.out)⟩
 ·
  rw [if_neg c5] at H
  have c5b0 : decide (t387 < 0) = false := decide_eq_false c5
  clear c5
  replace H := Option.bind_eq_some_iff.mp H
  obtain ⟨⟨t388, t389, t390⟩, A90, H⟩ := H
  try dsimp only at H
  have A9 := As_ A90
  clear A90
  replace H := Option.bind_eq_some_iff.mp H
  obtain ⟨⟨t393, t394, t395, t398⟩, A100, H⟩ := H
  try dsimp only at H
  have A10 := As_ A100
  clear A100
  replace H := Option.bind_eq_some_iff.mp H
  obtain ⟨⟨t400, t401, t402⟩, A110, H⟩ := H
  try dsimp only at H
  have A11 := As_ A110
  clear A110
  replace H := Option.bind_eq_some_iff.mp H
  obtain ⟨⟨t406, t407, t408, t411⟩, A120, H⟩ := H
  try dsimp only at H
  have A12 := As_ A120
  clear A120
  have HC13 := As_ H
  clear H
  go_enter Try.func5, Try.ntmps5
  go_upto_region 8 with (first | ((with_reducible refine gate_dst (N := 3) rfl ?_); refine box_event rfl (N := 3) rfl (cs := #[.int .i64 a0_0, .int .i64 a0_1, .slice A0_2 l0_2.length c0_2]) (t := 24) ?hr ?_; (case hr => first | (go_simp; done) | (go_simp; rfl)); intro gb386 hg w14 hbox hb; have BK386 := As_ (hbox); have hW_ := bel_ w hb (by repeat (first | (with_reducible first | exact HB.out | apply ba_ | apply bn_ | apply bd_) | exact HB.out)); have GE386 := As_ (gesz hg hW_); replace HB := As_ (below_step hW_ hb); clear hW_ hb hbox hg; obtain ⟨hcz15_0, hcz15_1, hcz15_2⟩ := c3_ (w := w14) BK386.out; obtain ⟨hfz15_0, hfz15_1, hfz15_2⟩ := z3_ BK386.out) | ((with_reducible refine gate_callee (f := 7) rfl ?_); refine goesL_ (some 20) rfl rfl Try.func7 (by kernel_rfl) rfl #[.agg #[.int .i64 a0_0, .int .i64 a0_1, .slice A0_2 l0_2.length c0_2], .int .i64 1048576] rfl (by (try simp only [List.map_toArray, List.map_cons, List.map_nil]); first | done | rfl | (simp only [List.length_drop, List.length_take]; rfl)) ?_; (with_reducible refine (laws_szCut.calls a0_0 a0_1 _ _ l0_2 1048576 t387 _ ?side1 ?side2 A4.out).mono ?_); (case side1 => repeat (first | exact (Kd.C_below HR0_2.out HB.out) | (with_reducible refine Kd.C_alloc ?_ _) | (with_reducible refine Kd.C_drewN ?_ _) | (with_reducible refine Kd.C_drew ?_))); (case side2 => exact HC0_2.out); rintro e w16 ⟨rfl, hb⟩; refine ⟨_, rfl, ?_⟩; replace BK386 := As_ (blk_b hb BK386.out); replace HB := As_ (below_step (by repeat (first | (with_reducible first | exact HB.out | apply ba_ | apply bn_ | apply bd_ | refine bs_ ?_ GE386.out) | exact HB.out)) hb); (try clear hb); obtain ⟨hcz17_0, hcz17_1, hcz17_2⟩ := c3_ (w := w16) BK386.out; obtain ⟨hfz17_0, hfz17_1, hfz17_2⟩ := z3_ BK386.out) | ((with_reducible refine gate_callee (f := 9) rfl ?_); refine goesL_ (some 25) rfl rfl Try.func9 (by kernel_rfl) rfl #[.agg #[.int .i64 a0_0, .int .i64 a0_1, .slice A0_2 l0_2.length c0_2]] rfl (by (try simp only [List.map_toArray, List.map_cons, List.map_nil]); first | done | rfl | (simp only [List.length_drop, List.length_take]; rfl)) ?_; (with_reducible refine (laws_toCut.calls k a0_0 a0_1 _ _ l0_2 t388 t389 t390 _ ?side1 ?side2 A9.out).mono ?_); (case side1 => repeat (first | exact (Kd.C_below HR0_2.out HB.out) | (with_reducible refine Kd.C_alloc ?_ _) | (with_reducible refine Kd.C_drewN ?_ _) | (with_reducible refine Kd.C_drew ?_))); (case side2 => exact HC0_2.out); rintro e w18 ⟨v391, rfl, ho0, hb⟩; refine ⟨_, rfl, ?_⟩; have HO392 := As_ (Kd.R_lower ho0 (below_size (by repeat (first | (with_reducible first | exact HB.out | apply ba_ | apply bn_ | apply bd_ | refine bs_ ?_ GE386.out) | exact HB.out)))); replace BK386 := As_ (blk_b hb BK386.out); replace HB := As_ (below_step (by repeat (first | (with_reducible first | exact HB.out | apply ba_ | apply bn_ | apply bd_ | refine bs_ ?_ GE386.out) | exact HB.out)) hb); (try clear hb); (try clear ho0); obtain ⟨Ao19, co19, eo19⟩ := Kd.R_slice HO392.out; subst eo19) | ((with_reducible refine gate_callee (f := 19) rfl ?_); refine goesL_ (some 28) rfl rfl Try.func19 (by kernel_rfl) rfl #[.agg #[.int .i64 t388, .int .i64 t389, .slice Ao19 t390.length co19], .int .i64 a1, .int .i64 a2] rfl (by (try simp only [List.map_toArray, List.map_cons, List.map_nil]); first | done | rfl | (simp only [List.length_drop, List.length_take]; rfl)) ?_; (with_reducible refine (spec_MakePuzzle.calls k t388 t389 _ _ t390 a1 a2 t393 t394 t395 t398 _ ?side1 ?side2 A10.out).mono ?_); (case side1 => repeat (first | exact (Kd.R_reads' HO392.out).2.2 | (with_reducible refine Kd.C_alloc ?_ _) | (with_reducible refine Kd.C_drewN ?_ _) | (with_reducible refine Kd.C_drew ?_))); (case side2 => exact (Kd.R_reads' HO392.out).2.1); rintro e w20 ⟨v396, rfl, ho0, hb⟩; refine ⟨_, rfl, ?_⟩; have HO397 := As_ (Kd.R_lower ho0 (below_size (by repeat (first | (with_reducible first | exact HB.out | apply ba_ | apply bn_ | apply bd_ | refine bs_ ?_ GE386.out) | exact HB.out)))); replace HO392 := As_ (Kd.R_below (by (with_reducible repeat (first | apply Kd.R_alloc | apply Kd.R_drewN | apply Kd.R_drew)); exact HO392.out) hb); replace BK386 := As_ (blk_b hb BK386.out); replace HB := As_ (below_step (by repeat (first | (with_reducible first | exact HB.out | apply ba_ | apply bn_ | apply bd_ | refine bs_ ?_ GE386.out) | exact HB.out)) hb); (try clear hb); (try clear ho0)) | ((with_reducible refine gate_dst (N := 8) rfl ?_); refine box_event rfl (N := 8) rfl (cs := #[.int .i64 0, .int .i64 0, .slice none 0 0]) (t := 47) ?hr ?_; (case hr => first | (go_simp; done) | (go_simp; rfl)); intro gb399 hg w21 hbox hb; have BK399 := As_ (hbox); have hW_ := bel_ w hb (by repeat (first | (with_reducible first | exact HB.out | apply ba_ | apply bn_ | apply bd_ | refine bs_ ?_ GE386.out) | exact HB.out)); have GE399 := As_ (gesz hg hW_); have NB386_399 := As_ (ne_lt hg BK386.out); have NB399_386 := As_ (ne_gt hg BK386.out); replace HO392 := As_ (Kd.R_below (by (with_reducible repeat (first | apply Kd.R_alloc | apply Kd.R_drewN | apply Kd.R_drew)); exact HO392.out) hb); replace HO397 := As_ (Kd.R_below (by (with_reducible repeat (first | apply Kd.R_alloc | apply Kd.R_drewN | apply Kd.R_drew)); exact HO397.out) hb); replace BK386 := As_ (blk_b hb BK386.out); replace HB := As_ (below_step hW_ hb); clear hW_ hb hbox hg; have hnb22 := NB399_386.out; have hnc22 := NB386_399.out; obtain ⟨hcz23_0, hcz23_1, hcz23_2⟩ := c3_ (w := w21) BK399.out; obtain ⟨hfz23_0, hfz23_1, hfz23_2⟩ := z3_ BK399.out; obtain ⟨Ao24, co24, eo24⟩ := Kd.R_slice HO397.out; subst eo24; obtain ⟨hcz25_0, hcz25_1, hcz25_2⟩ := c3_ (w := w21) BK386.out; obtain ⟨hfz25_0, hfz25_1, hfz25_2⟩ := z3_ BK386.out) | ((with_reducible refine gate_callee (f := 9) rfl ?_); refine goesL_ (some 32) rfl rfl Try.func9 (by kernel_rfl) rfl #[.agg #[.int .i64 a0_0, .int .i64 a0_1, .slice A0_2 l0_2.length c0_2]] rfl (by (try simp only [List.map_toArray, List.map_cons, List.map_nil]); first | done | rfl | (simp only [List.length_drop, List.length_take]; rfl)) ?_; (with_reducible refine (laws_toCut.calls k a0_0 a0_1 _ _ l0_2 t400 t401 t402 _ ?side1 ?side2 A11.out).mono ?_); (case side1 => exact Kd.C_below HR0_2.out (by repeat (first | (with_reducible first | exact HB.out | apply ba_ | apply bn_ | apply bd_ | refine below_setA ?_ (by assumption)) | exact HB.out))); (case side2 => exact HC0_2.out); rintro e w26 ⟨v403, rfl, ho0, hb⟩; refine ⟨_, rfl, ?_⟩; have HO404 := As_ (Kd.R_lower (Kd.R_new' ho0 (Kd.R_lt (by (with_reducible repeat (first | apply Kd.R_alloc | apply Kd.R_drewN | apply Kd.R_drew)); exact (Kd.R_mono (Kd.R_far (p := ⟨gb399, 2, none⟩) (Kd.R_far (p := ⟨gb399, 1, none⟩) (Kd.R_far (p := ⟨gb399, 0, none⟩) (Kd.R_types HO392.out BK399.out (by decide)) (fun _ hk => hk.2) (.int .i64 t393)) (fun _ hk => hk.2) (.int .i64 t394)) (fun _ hk => hk.2) (.slice Ao24 t395.length co24)) (fun _ h_ => h_.1))))) (below_size (by repeat (first | (with_reducible first | exact HB.out | apply ba_ | apply bn_ | apply bd_ | refine below_setA ?_ (by assumption)) | exact HB.out)))); replace HO392 := As_ (Kd.R_elder' (by (with_reducible repeat (first | apply Kd.R_alloc | apply Kd.R_drewN | apply Kd.R_drew)); exact (Kd.R_mono (Kd.R_far (p := ⟨gb399, 2, none⟩) (Kd.R_far (p := ⟨gb399, 1, none⟩) (Kd.R_far (p := ⟨gb399, 0, none⟩) (Kd.R_types HO392.out BK399.out (by decide)) (fun _ hk => hk.2) (.int .i64 t393)) (fun _ hk => hk.2) (.int .i64 t394)) (fun _ hk => hk.2) (.slice Ao24 t395.length co24)) (fun _ h_ => h_.1))) (Kd.R_base ho0) hb); replace HO397 := As_ (Kd.R_below (by (with_reducible repeat (first | apply Kd.R_alloc | apply Kd.R_drewN | apply Kd.R_drew)); exact (Kd.R_mono (Kd.R_far (p := ⟨gb399, 2, none⟩) (Kd.R_far (p := ⟨gb399, 1, none⟩) (Kd.R_far (p := ⟨gb399, 0, none⟩) (Kd.R_types HO397.out BK399.out (by decide)) (fun _ hk => hk.2) (.int .i64 t393)) (fun _ hk => hk.2) (.int .i64 t394)) (fun _ hk => hk.2) (.slice Ao24 t395.length co24)) (fun _ h_ => h_.1))) hb); replace BK386 := As_ (blk_below (g := gb386) (o := .cells #[.int .i64 a0_0, .int .i64 a0_1, .slice A0_2 l0_2.length c0_2] 24 (0, 0)) (by (with_reducible repeat (first | refine kn_ ?_ _ | refine kd_ ?_ | refine ka_ ?_ _)); refine blk_far ?_ NB386_399.out _; refine blk_far ?_ NB386_399.out _; refine blk_far ?_ NB386_399.out _; (with_reducible repeat (first | refine kn_ ?_ _ | refine kd_ ?_ | refine ka_ ?_ _)); exact BK386.out) hb); replace BK399 := As_ (blk_below (g := gb399) (o := .cells #[.int .i64 t393, .int .i64 t394, .slice Ao24 t395.length co24] 47 (0, 0)) (by (with_reducible repeat (first | refine kn_ ?_ _ | refine kd_ ?_ | refine ka_ ?_ _)); refine blk_put (cs := #[.int .i64 t393, .int .i64 t394, .slice none 0 0]) ?_ 2 _ rfl; refine blk_put (cs := #[.int .i64 t393, .int .i64 0, .slice none 0 0]) ?_ 1 _ rfl; refine blk_put (cs := #[.int .i64 0, .int .i64 0, .slice none 0 0]) ?_ 0 _ rfl; (with_reducible repeat (first | refine kn_ ?_ _ | refine kd_ ?_ | refine ka_ ?_ _)); exact BK399.out) hb); replace HB := As_ (below_step (by repeat (first | (with_reducible first | exact HB.out | apply ba_ | apply bn_ | apply bd_ | refine below_setA ?_ (by assumption)) | exact HB.out)) hb); (try clear hb); (try clear ho0)) | ((with_reducible refine gate_dst (N := 10) rfl ?_); refine box_event rfl (N := 10) rfl (cs := #[.int .i64 0, .int .i64 0, .slice none 0 0]) (t := 31) ?hr ?_; (case hr => first | (go_simp; done) | (go_simp; rfl)); intro gb405 hg w27 hbox hb; have BK405 := As_ (hbox); have hW_ := bel_ w hb (by repeat (first | (with_reducible first | exact HB.out | apply ba_ | apply bn_ | apply bd_ | refine below_setA ?_ (by assumption)) | exact HB.out)); have GE405 := As_ (gesz hg hW_); have NB386_405 := As_ (ne_lt hg BK386.out); have NB405_386 := As_ (ne_gt hg BK386.out); have NB399_405 := As_ (ne_lt hg BK399.out); have NB405_399 := As_ (ne_gt hg BK399.out); replace HO392 := As_ (Kd.R_below (by (with_reducible repeat (first | apply Kd.R_alloc | apply Kd.R_drewN | apply Kd.R_drew)); exact HO392.out) hb); replace HO397 := As_ (Kd.R_below (by (with_reducible repeat (first | apply Kd.R_alloc | apply Kd.R_drewN | apply Kd.R_drew)); exact HO397.out) hb); replace HO404 := As_ (Kd.R_below (by (with_reducible repeat (first | apply Kd.R_alloc | apply Kd.R_drewN | apply Kd.R_drew)); exact HO404.out) hb); replace BK386 := As_ (blk_b hb BK386.out); replace BK399 := As_ (blk_b hb BK399.out); replace HB := As_ (below_step hW_ hb); clear hW_ hb hbox hg; have hnb28 := NB405_386.out; have hnc28 := NB386_405.out; have hnb29 := NB405_399.out; have hnc29 := NB399_405.out; obtain ⟨hcz30_0, hcz30_1, hcz30_2⟩ := c3_ (w := w27) BK405.out; obtain ⟨hfz30_0, hfz30_1, hfz30_2⟩ := z3_ BK405.out; obtain ⟨Ao31, co31, eo31⟩ := Kd.R_slice HO404.out; subst eo31) | ((with_reducible refine gate_callee (f := 20) rfl ?_); refine goesL_ (some 37) rfl rfl Try.func20 (by kernel_rfl) rfl #[.agg #[.int .i64 t400, .int .i64 t401, .slice Ao31 t402.length co31], .int .i64 a1, .int .i64 a2] rfl (by (try simp only [List.map_toArray, List.map_cons, List.map_nil]); first | done | rfl | (simp only [List.length_drop, List.length_take]; rfl)) ?_; (with_reducible refine (impl_MakePuzzle.calls k t400 t401 _ _ t402 a1 a2 t406 t407 t408 t411 _ ?side1 ?side2 A12.out).mono ?_); (case side1 => refine (Kd.R_reads' (e := 87) (base := w.heap.size) (ok := fun k_ => (True ∧ some k_ ≠ (.slice Ao19 t390.length co19 : Value).ownBlock)) (n := t402.length) (c := co31) ?_).2.2; exact (by (with_reducible repeat (first | apply Kd.R_alloc | apply Kd.R_drewN | apply Kd.R_drew)); exact (Kd.R_mono (Kd.R_far (p := ⟨gb405, 2, none⟩) (Kd.R_far (p := ⟨gb405, 1, none⟩) (Kd.R_far (p := ⟨gb405, 0, none⟩) (Kd.R_types HO404.out BK405.out (by decide)) (fun _ hk => hk.2) (.int .i64 t400)) (fun _ hk => hk.2) (.int .i64 t401)) (fun _ hk => hk.2) (.slice Ao31 t402.length co31)) (fun _ h_ => h_.1)))); (case side2 => exact (Kd.R_reads' HO404.out).2.1); rintro e w32 ⟨v409, rfl, ho0, hb⟩; refine ⟨_, rfl, ?_⟩; have HO410 := As_ (Kd.R_lower (Kd.R_new' ho0 (Kd.R_lt (by (with_reducible repeat (first | apply Kd.R_alloc | apply Kd.R_drewN | apply Kd.R_drew)); exact (Kd.R_mono (Kd.R_far (p := ⟨gb405, 2, none⟩) (Kd.R_far (p := ⟨gb405, 1, none⟩) (Kd.R_far (p := ⟨gb405, 0, none⟩) (Kd.R_types HO397.out BK405.out (by decide)) (fun _ hk => hk.2) (.int .i64 t400)) (fun _ hk => hk.2) (.int .i64 t401)) (fun _ hk => hk.2) (.slice Ao31 t402.length co31)) (fun _ h_ => h_.1))))) (below_size (by repeat (first | (with_reducible first | exact HB.out | apply ba_ | apply bn_ | apply bd_ | refine below_setA ?_ (by assumption)) | exact HB.out)))); replace HO392 := As_ (Kd.R_below (by (with_reducible repeat (first | apply Kd.R_alloc | apply Kd.R_drewN | apply Kd.R_drew)); exact (Kd.R_mono (Kd.R_far (p := ⟨gb405, 2, none⟩) (Kd.R_far (p := ⟨gb405, 1, none⟩) (Kd.R_far (p := ⟨gb405, 0, none⟩) (Kd.R_types HO392.out BK405.out (by decide)) (fun _ hk => hk.2) (.int .i64 t400)) (fun _ hk => hk.2) (.int .i64 t401)) (fun _ hk => hk.2) (.slice Ao31 t402.length co31)) (fun _ h_ => h_.1))) hb); replace HO397 := As_ (Kd.R_elder' (by (with_reducible repeat (first | apply Kd.R_alloc | apply Kd.R_drewN | apply Kd.R_drew)); exact (Kd.R_mono (Kd.R_far (p := ⟨gb405, 2, none⟩) (Kd.R_far (p := ⟨gb405, 1, none⟩) (Kd.R_far (p := ⟨gb405, 0, none⟩) (Kd.R_types HO397.out BK405.out (by decide)) (fun _ hk => hk.2) (.int .i64 t400)) (fun _ hk => hk.2) (.int .i64 t401)) (fun _ hk => hk.2) (.slice Ao31 t402.length co31)) (fun _ h_ => h_.1))) (Kd.R_base ho0) hb); replace HO404 := As_ (Kd.R_below (by (with_reducible repeat (first | apply Kd.R_alloc | apply Kd.R_drewN | apply Kd.R_drew)); exact (Kd.R_mono (Kd.R_far (p := ⟨gb405, 2, none⟩) (Kd.R_far (p := ⟨gb405, 1, none⟩) (Kd.R_far (p := ⟨gb405, 0, none⟩) (Kd.R_types HO404.out BK405.out (by decide)) (fun _ hk => hk.2) (.int .i64 t400)) (fun _ hk => hk.2) (.int .i64 t401)) (fun _ hk => hk.2) (.slice Ao31 t402.length co31)) (fun _ h_ => h_.1))) hb); replace BK386 := As_ (blk_below (g := gb386) (o := .cells #[.int .i64 a0_0, .int .i64 a0_1, .slice A0_2 l0_2.length c0_2] 24 (0, 0)) (by (with_reducible repeat (first | refine kn_ ?_ _ | refine kd_ ?_ | refine ka_ ?_ _)); refine blk_far ?_ NB386_405.out _; refine blk_far ?_ NB386_405.out _; refine blk_far ?_ NB386_405.out _; (with_reducible repeat (first | refine kn_ ?_ _ | refine kd_ ?_ | refine ka_ ?_ _)); exact BK386.out) hb); replace BK399 := As_ (blk_below (g := gb399) (o := .cells #[.int .i64 t393, .int .i64 t394, .slice Ao24 t395.length co24] 47 (0, 0)) (by (with_reducible repeat (first | refine kn_ ?_ _ | refine kd_ ?_ | refine ka_ ?_ _)); refine blk_far ?_ NB399_405.out _; refine blk_far ?_ NB399_405.out _; refine blk_far ?_ NB399_405.out _; (with_reducible repeat (first | refine kn_ ?_ _ | refine kd_ ?_ | refine ka_ ?_ _)); exact BK399.out) hb); replace BK405 := As_ (blk_below (g := gb405) (o := .cells #[.int .i64 t400, .int .i64 t401, .slice Ao31 t402.length co31] 31 (0, 0)) (by (with_reducible repeat (first | refine kn_ ?_ _ | refine kd_ ?_ | refine ka_ ?_ _)); refine blk_put (cs := #[.int .i64 t400, .int .i64 t401, .slice none 0 0]) ?_ 2 _ rfl; refine blk_put (cs := #[.int .i64 t400, .int .i64 0, .slice none 0 0]) ?_ 1 _ rfl; refine blk_put (cs := #[.int .i64 0, .int .i64 0, .slice none 0 0]) ?_ 0 _ rfl; (with_reducible repeat (first | refine kn_ ?_ _ | refine kd_ ?_ | refine ka_ ?_ _)); exact BK405.out) hb); replace HB := As_ (below_step (by repeat (first | (with_reducible first | exact HB.out | apply ba_ | apply bn_ | apply bd_ | refine below_setA ?_ (by assumption)) | exact HB.out)) hb); (try clear hb); (try clear ho0)) | ((with_reducible refine gate_dst (N := 11) rfl ?_); refine box_event rfl (N := 11) rfl (cs := #[.int .i64 0, .int .i64 0, .slice none 0 0]) (t := 47) ?hr ?_; (case hr => first | (go_simp; done) | (go_simp; rfl)); intro gb412 hg w33 hbox hb; have BK412 := As_ (hbox); have hW_ := bel_ w hb (by repeat (first | (with_reducible first | exact HB.out | apply ba_ | apply bn_ | apply bd_ | refine below_setA ?_ (by assumption)) | exact HB.out)); have GE412 := As_ (gesz hg hW_); have NB386_412 := As_ (ne_lt hg BK386.out); have NB412_386 := As_ (ne_gt hg BK386.out); have NB399_412 := As_ (ne_lt hg BK399.out); have NB412_399 := As_ (ne_gt hg BK399.out); have NB405_412 := As_ (ne_lt hg BK405.out); have NB412_405 := As_ (ne_gt hg BK405.out); replace HO392 := As_ (Kd.R_below (by (with_reducible repeat (first | apply Kd.R_alloc | apply Kd.R_drewN | apply Kd.R_drew)); exact HO392.out) hb); replace HO397 := As_ (Kd.R_below (by (with_reducible repeat (first | apply Kd.R_alloc | apply Kd.R_drewN | apply Kd.R_drew)); exact HO397.out) hb); replace HO404 := As_ (Kd.R_below (by (with_reducible repeat (first | apply Kd.R_alloc | apply Kd.R_drewN | apply Kd.R_drew)); exact HO404.out) hb); replace HO410 := As_ (Kd.R_below (by (with_reducible repeat (first | apply Kd.R_alloc | apply Kd.R_drewN | apply Kd.R_drew)); exact HO410.out) hb); replace BK386 := As_ (blk_b hb BK386.out); replace BK399 := As_ (blk_b hb BK399.out); replace BK405 := As_ (blk_b hb BK405.out); replace HB := As_ (below_step hW_ hb); clear hW_ hb hbox hg; have hnb34 := NB412_386.out; have hnc34 := NB386_412.out; have hnb35 := NB412_399.out; have hnc35 := NB399_412.out; have hnb36 := NB412_405.out; have hnc36 := NB405_412.out; obtain ⟨hcz37_0, hcz37_1, hcz37_2⟩ := c3_ (w := w33) BK412.out; obtain ⟨hfz37_0, hfz37_1, hfz37_2⟩ := z3_ BK412.out; obtain ⟨Ao38, co38, eo38⟩ := Kd.R_slice HO410.out; subst eo38))
  (try simp only [Act.put, sib_, sc0_, sc1_])
  go_cut [48] (fun v48 wc => ∃ (kq : Nat) (x48_12 : Bool), v48 = .bool x48_12 ∧ Aside0 (laws_FnExactMakePuzzle.j0 kq a1 a2 t398 t411 x48_12 a0_0 a0_1 l0_2 t393 t394 t395 t400 t401 t402 t406 t407 t408 = some r) ∧ Aside0 (kq ≤ k) ∧ Aside0 (Kd.R k42 42 wc w.heap.size (fun k_ => some k_ ≠ ((.slice Ao38 t408.length co38) : Value).ownBlock) (.slice Ao24 t395.length co24) t395) ∧ Aside0 (Kd.R k87 87 wc w.heap.size (fun _ => True) (.slice Ao31 t402.length co31) t402) ∧ Aside0 (Kd.R k42 42 wc w.heap.size (fun k_ => some k_ ≠ ((.slice Ao24 t395.length co24) : Value).ownBlock) (.slice Ao38 t408.length co38) t408) ∧ Aside0 (wc.heap[gb386]? = some (.cells #[.int .i64 a0_0, .int .i64 a0_1, (.slice A0_2 l0_2.length c0_2)] 24 (0, 0))) ∧ Aside0 (wc.heap[gb399]? = some (.cells #[.int .i64 t393, .int .i64 t394, (.slice Ao24 t395.length co24)] 47 (0, 0))) ∧ Aside0 (wc.heap[gb405]? = some (.cells #[.int .i64 t400, .int .i64 t401, (.slice Ao31 t402.length co31)] 31 (0, 0))) ∧ Aside0 (wc.heap[gb412]? = some (.cells #[.int .i64 t406, .int .i64 t407, (.slice Ao38 t408.length co38)] 47 (0, 0))) ∧ Aside0 (Below w.heap.size w wc))
  case first =>
   have H := HC13.out
   clear HC13
   replace H := Option.bind_eq_some_iff.mp H
   obtain ⟨t413, A390, H⟩ := H
   try dsimp only at H
   have A39 := As_ A390
   clear A390
   by_cases c40 : t413 = true
   ·
    subst c40
    have H1 : (laws_FnExactMakePuzzle.j0 k a1 a2 t398 t411 (t411 != t398) a0_0 a0_1 l0_2 t393 t394 t395 t400 t401 t402 t406 t407 t408) = some r := by rw [if_pos rfl] at H; exact H
    clear H
    have H := H1
    clear H1
    have H' := As_ H
    clear H
    have hnb41 := NB412_386.out
    have hnc41 := NB386_412.out
    have hnb42 := NB412_399.out
    have hnc42 := NB399_412.out
    have hnb43 := NB412_405.out
    have hnc43 := NB405_412.out
    obtain ⟨hcz44_0, hcz44_1, hcz44_2⟩ := c3_ (w := w33) BK412.out
    obtain ⟨hfz44_0, hfz44_1, hfz44_2⟩ := z3_ BK412.out
    have hnb45 := NB399_386.out
    have hnc45 := NB386_399.out
    have hnb46 := NB399_405.out
    have hnc46 := NB405_399.out
    obtain ⟨hcz47_0, hcz47_1, hcz47_2⟩ := c3_ (w := w33) BK399.out
    obtain ⟨hfz47_0, hfz47_1, hfz47_2⟩ := z3_ BK399.out
    go_wp2_with (first | ((with_reducible refine gate_callee (f := 21) rfl ?_); refine goesL_ (some 42) rfl rfl Try.func21 (by kernel_rfl) rfl #[.agg #[.int .i64 t406, .int .i64 t407, .slice Ao38 t408.length co38], .agg #[.int .i64 t393, .int .i64 t394, .slice Ao24 t395.length co24]] rfl (by (try simp only [List.map_toArray, List.map_cons, List.map_nil]); first | done | rfl | (simp only [List.length_drop, List.length_take]; rfl)) ?_; (with_reducible refine (laws_eqPuzzle.calls k t406 t407 _ _ t408 t393 t394 _ _ t395 true _ ?side1 ?side2 ?side3 ?side4 A39.out).mono ?_); (case side1 => refine (Kd.R_reads' (e := 42) (base := w.heap.size) (ok := fun k_ => (True ∧ some k_ ≠ (.slice Ao24 t395.length co24 : Value).ownBlock)) (n := t408.length) (c := co38) ?_).2.2; exact (by (with_reducible repeat (first | apply Kd.R_alloc | apply Kd.R_drewN | apply Kd.R_drew)); exact (Kd.R_mono (Kd.R_far (p := ⟨gb412, 2, none⟩) (Kd.R_far (p := ⟨gb412, 1, none⟩) (Kd.R_far (p := ⟨gb412, 0, none⟩) (Kd.R_types HO410.out BK412.out (by decide)) (fun _ hk => hk.2) (.int .i64 t406)) (fun _ hk => hk.2) (.int .i64 t407)) (fun _ hk => hk.2) (.slice Ao38 t408.length co38)) (fun _ h_ => h_.1)))); (case side2 => exact (Kd.R_reads' HO410.out).2.1); (case side3 => refine (Kd.R_reads' (e := 42) (base := w.heap.size) (ok := fun k_ => (True ∧ some k_ ≠ (.slice Ao38 t408.length co38 : Value).ownBlock)) (n := t395.length) (c := co24) ?_).2.2; exact (by (with_reducible repeat (first | apply Kd.R_alloc | apply Kd.R_drewN | apply Kd.R_drew)); exact (Kd.R_mono (Kd.R_far (p := ⟨gb412, 2, none⟩) (Kd.R_far (p := ⟨gb412, 1, none⟩) (Kd.R_far (p := ⟨gb412, 0, none⟩) (Kd.R_types HO397.out BK412.out (by decide)) (fun _ hk => hk.2) (.int .i64 t406)) (fun _ hk => hk.2) (.int .i64 t407)) (fun _ hk => hk.2) (.slice Ao38 t408.length co38)) (fun _ h_ => h_.1)))); (case side4 => exact (Kd.R_reads' HO397.out).2.1); rintro e w48 ⟨rfl, hb⟩; refine ⟨_, rfl, ?_⟩; replace HO392 := As_ (Kd.R_below (by (with_reducible repeat (first | apply Kd.R_alloc | apply Kd.R_drewN | apply Kd.R_drew)); exact (Kd.R_mono (Kd.R_far (p := ⟨gb412, 2, none⟩) (Kd.R_far (p := ⟨gb412, 1, none⟩) (Kd.R_far (p := ⟨gb412, 0, none⟩) (Kd.R_types HO392.out BK412.out (by decide)) (fun _ hk => hk.2) (.int .i64 t406)) (fun _ hk => hk.2) (.int .i64 t407)) (fun _ hk => hk.2) (.slice Ao38 t408.length co38)) (fun _ h_ => h_.1))) hb); replace HO397 := As_ (Kd.R_below (by (with_reducible repeat (first | apply Kd.R_alloc | apply Kd.R_drewN | apply Kd.R_drew)); exact (Kd.R_mono (Kd.R_far (p := ⟨gb412, 2, none⟩) (Kd.R_far (p := ⟨gb412, 1, none⟩) (Kd.R_far (p := ⟨gb412, 0, none⟩) (Kd.R_types HO397.out BK412.out (by decide)) (fun _ hk => hk.2) (.int .i64 t406)) (fun _ hk => hk.2) (.int .i64 t407)) (fun _ hk => hk.2) (.slice Ao38 t408.length co38)) (fun _ h_ => h_.1))) hb); replace HO404 := As_ (Kd.R_below (by (with_reducible repeat (first | apply Kd.R_alloc | apply Kd.R_drewN | apply Kd.R_drew)); exact (Kd.R_mono (Kd.R_far (p := ⟨gb412, 2, none⟩) (Kd.R_far (p := ⟨gb412, 1, none⟩) (Kd.R_far (p := ⟨gb412, 0, none⟩) (Kd.R_types HO404.out BK412.out (by decide)) (fun _ hk => hk.2) (.int .i64 t406)) (fun _ hk => hk.2) (.int .i64 t407)) (fun _ hk => hk.2) (.slice Ao38 t408.length co38)) (fun _ h_ => h_.1))) hb); replace HO410 := As_ (Kd.R_below (by (with_reducible repeat (first | apply Kd.R_alloc | apply Kd.R_drewN | apply Kd.R_drew)); exact (Kd.R_mono (Kd.R_far (p := ⟨gb412, 2, none⟩) (Kd.R_far (p := ⟨gb412, 1, none⟩) (Kd.R_far (p := ⟨gb412, 0, none⟩) (Kd.R_types HO410.out BK412.out (by decide)) (fun _ hk => hk.2) (.int .i64 t406)) (fun _ hk => hk.2) (.int .i64 t407)) (fun _ hk => hk.2) (.slice Ao38 t408.length co38)) (fun _ h_ => h_.1))) hb); replace BK386 := As_ (blk_below (g := gb386) (o := .cells #[.int .i64 a0_0, .int .i64 a0_1, .slice A0_2 l0_2.length c0_2] 24 (0, 0)) (by (with_reducible repeat (first | refine kn_ ?_ _ | refine kd_ ?_ | refine ka_ ?_ _)); refine blk_far ?_ NB386_412.out _; refine blk_far ?_ NB386_412.out _; refine blk_far ?_ NB386_412.out _; (with_reducible repeat (first | refine kn_ ?_ _ | refine kd_ ?_ | refine ka_ ?_ _)); exact BK386.out) hb); replace BK399 := As_ (blk_below (g := gb399) (o := .cells #[.int .i64 t393, .int .i64 t394, .slice Ao24 t395.length co24] 47 (0, 0)) (by (with_reducible repeat (first | refine kn_ ?_ _ | refine kd_ ?_ | refine ka_ ?_ _)); refine blk_far ?_ NB399_412.out _; refine blk_far ?_ NB399_412.out _; refine blk_far ?_ NB399_412.out _; (with_reducible repeat (first | refine kn_ ?_ _ | refine kd_ ?_ | refine ka_ ?_ _)); exact BK399.out) hb); replace BK405 := As_ (blk_below (g := gb405) (o := .cells #[.int .i64 t400, .int .i64 t401, .slice Ao31 t402.length co31] 31 (0, 0)) (by (with_reducible repeat (first | refine kn_ ?_ _ | refine kd_ ?_ | refine ka_ ?_ _)); refine blk_far ?_ NB405_412.out _; refine blk_far ?_ NB405_412.out _; refine blk_far ?_ NB405_412.out _; (with_reducible repeat (first | refine kn_ ?_ _ | refine kd_ ?_ | refine ka_ ?_ _)); exact BK405.out) hb); replace BK412 := As_ (blk_below (g := gb412) (o := .cells #[.int .i64 t406, .int .i64 t407, .slice Ao38 t408.length co38] 47 (0, 0)) (by (with_reducible repeat (first | refine kn_ ?_ _ | refine kd_ ?_ | refine ka_ ?_ _)); refine blk_put (cs := #[.int .i64 t406, .int .i64 t407, .slice none 0 0]) ?_ 2 _ rfl; refine blk_put (cs := #[.int .i64 t406, .int .i64 0, .slice none 0 0]) ?_ 1 _ rfl; refine blk_put (cs := #[.int .i64 0, .int .i64 0, .slice none 0 0]) ?_ 0 _ rfl; (with_reducible repeat (first | refine kn_ ?_ _ | refine kd_ ?_ | refine ka_ ?_ _)); exact BK412.out) hb); replace HB := As_ (below_step (by repeat (first | (with_reducible first | exact HB.out | apply ba_ | apply bn_ | apply bd_ | refine below_setA ?_ (by assumption)) | exact HB.out)) hb); (try clear hb)))
    go_meet
    case rel => exact ⟨_, ((t411 != t398)), (by first | rfl | (simp; done) | (simp [*]; done)), H', ⟨by first | omega | exact Nat.le_refl _⟩, ⟨by (with_reducible repeat (first | apply Kd.R_alloc | apply Kd.R_drewN | apply Kd.R_drew)); exact Kd.R_mono HO397.out (fun _ hk => hk.2)⟩, ⟨by (with_reducible repeat (first | apply Kd.R_alloc | apply Kd.R_drewN | apply Kd.R_drew)); exact Kd.R_mono HO404.out (fun _ hk => trivial)⟩, ⟨by (with_reducible repeat (first | apply Kd.R_alloc | apply Kd.R_drewN | apply Kd.R_drew)); exact Kd.R_mono HO410.out (fun _ hk => hk.2)⟩, ⟨by (with_reducible repeat (first | refine kn_ ?_ _ | refine kd_ ?_ | refine ka_ ?_ _)); exact BK386.out⟩, ⟨by (with_reducible repeat (first | refine kn_ ?_ _ | refine kd_ ?_ | refine ka_ ?_ _)); exact BK399.out⟩, ⟨by (with_reducible repeat (first | refine kn_ ?_ _ | refine kd_ ?_ | refine ka_ ?_ _)); exact BK405.out⟩, ⟨by (with_reducible repeat (first | refine kn_ ?_ _ | refine kd_ ?_ | refine ka_ ?_ _)); exact BK412.out⟩, ⟨by repeat (first | (with_reducible first | exact HB.out | apply ba_ | apply bn_ | apply bd_ | refine below_setA ?_ (by assumption)) | exact HB.out)⟩⟩
   ·
    replace c40 := Bool.eq_false_iff.mpr c40
    subst c40
    have H1 : (laws_FnExactMakePuzzle.j0 k a1 a2 t398 t411 true a0_0 a0_1 l0_2 t393 t394 t395 t400 t401 t402 t406 t407 t408) = some r := by rw [if_neg (show ¬ (false = true) by decide)] at H; exact H
    clear H
    have H := H1
    clear H1
    have H' := As_ H
    clear H
    have hnb49 := NB412_386.out
    have hnc49 := NB386_412.out
    have hnb50 := NB412_399.out
    have hnc50 := NB399_412.out
    have hnb51 := NB412_405.out
    have hnc51 := NB405_412.out
    obtain ⟨hcz52_0, hcz52_1, hcz52_2⟩ := c3_ (w := w33) BK412.out
    obtain ⟨hfz52_0, hfz52_1, hfz52_2⟩ := z3_ BK412.out
    have hnb53 := NB399_386.out
    have hnc53 := NB386_399.out
    have hnb54 := NB399_405.out
    have hnc54 := NB405_399.out
    obtain ⟨hcz55_0, hcz55_1, hcz55_2⟩ := c3_ (w := w33) BK399.out
    obtain ⟨hfz55_0, hfz55_1, hfz55_2⟩ := z3_ BK399.out
    go_wp2_with (first | ((with_reducible refine gate_callee (f := 21) rfl ?_); refine goesL_ (some 42) rfl rfl Try.func21 (by kernel_rfl) rfl #[.agg #[.int .i64 t406, .int .i64 t407, .slice Ao38 t408.length co38], .agg #[.int .i64 t393, .int .i64 t394, .slice Ao24 t395.length co24]] rfl (by (try simp only [List.map_toArray, List.map_cons, List.map_nil]); first | done | rfl | (simp only [List.length_drop, List.length_take]; rfl)) ?_; (with_reducible refine (laws_eqPuzzle.calls k t406 t407 _ _ t408 t393 t394 _ _ t395 false _ ?side1 ?side2 ?side3 ?side4 A39.out).mono ?_); (case side1 => refine (Kd.R_reads' (e := 42) (base := w.heap.size) (ok := fun k_ => (True ∧ some k_ ≠ (.slice Ao24 t395.length co24 : Value).ownBlock)) (n := t408.length) (c := co38) ?_).2.2; exact (by (with_reducible repeat (first | apply Kd.R_alloc | apply Kd.R_drewN | apply Kd.R_drew)); exact (Kd.R_mono (Kd.R_far (p := ⟨gb412, 2, none⟩) (Kd.R_far (p := ⟨gb412, 1, none⟩) (Kd.R_far (p := ⟨gb412, 0, none⟩) (Kd.R_types HO410.out BK412.out (by decide)) (fun _ hk => hk.2) (.int .i64 t406)) (fun _ hk => hk.2) (.int .i64 t407)) (fun _ hk => hk.2) (.slice Ao38 t408.length co38)) (fun _ h_ => h_.1)))); (case side2 => exact (Kd.R_reads' HO410.out).2.1); (case side3 => refine (Kd.R_reads' (e := 42) (base := w.heap.size) (ok := fun k_ => (True ∧ some k_ ≠ (.slice Ao38 t408.length co38 : Value).ownBlock)) (n := t395.length) (c := co24) ?_).2.2; exact (by (with_reducible repeat (first | apply Kd.R_alloc | apply Kd.R_drewN | apply Kd.R_drew)); exact (Kd.R_mono (Kd.R_far (p := ⟨gb412, 2, none⟩) (Kd.R_far (p := ⟨gb412, 1, none⟩) (Kd.R_far (p := ⟨gb412, 0, none⟩) (Kd.R_types HO397.out BK412.out (by decide)) (fun _ hk => hk.2) (.int .i64 t406)) (fun _ hk => hk.2) (.int .i64 t407)) (fun _ hk => hk.2) (.slice Ao38 t408.length co38)) (fun _ h_ => h_.1)))); (case side4 => exact (Kd.R_reads' HO397.out).2.1); rintro e w56 ⟨rfl, hb⟩; refine ⟨_, rfl, ?_⟩; replace HO392 := As_ (Kd.R_below (by (with_reducible repeat (first | apply Kd.R_alloc | apply Kd.R_drewN | apply Kd.R_drew)); exact (Kd.R_mono (Kd.R_far (p := ⟨gb412, 2, none⟩) (Kd.R_far (p := ⟨gb412, 1, none⟩) (Kd.R_far (p := ⟨gb412, 0, none⟩) (Kd.R_types HO392.out BK412.out (by decide)) (fun _ hk => hk.2) (.int .i64 t406)) (fun _ hk => hk.2) (.int .i64 t407)) (fun _ hk => hk.2) (.slice Ao38 t408.length co38)) (fun _ h_ => h_.1))) hb); replace HO397 := As_ (Kd.R_below (by (with_reducible repeat (first | apply Kd.R_alloc | apply Kd.R_drewN | apply Kd.R_drew)); exact (Kd.R_mono (Kd.R_far (p := ⟨gb412, 2, none⟩) (Kd.R_far (p := ⟨gb412, 1, none⟩) (Kd.R_far (p := ⟨gb412, 0, none⟩) (Kd.R_types HO397.out BK412.out (by decide)) (fun _ hk => hk.2) (.int .i64 t406)) (fun _ hk => hk.2) (.int .i64 t407)) (fun _ hk => hk.2) (.slice Ao38 t408.length co38)) (fun _ h_ => h_.1))) hb); replace HO404 := As_ (Kd.R_below (by (with_reducible repeat (first | apply Kd.R_alloc | apply Kd.R_drewN | apply Kd.R_drew)); exact (Kd.R_mono (Kd.R_far (p := ⟨gb412, 2, none⟩) (Kd.R_far (p := ⟨gb412, 1, none⟩) (Kd.R_far (p := ⟨gb412, 0, none⟩) (Kd.R_types HO404.out BK412.out (by decide)) (fun _ hk => hk.2) (.int .i64 t406)) (fun _ hk => hk.2) (.int .i64 t407)) (fun _ hk => hk.2) (.slice Ao38 t408.length co38)) (fun _ h_ => h_.1))) hb); replace HO410 := As_ (Kd.R_below (by (with_reducible repeat (first | apply Kd.R_alloc | apply Kd.R_drewN | apply Kd.R_drew)); exact (Kd.R_mono (Kd.R_far (p := ⟨gb412, 2, none⟩) (Kd.R_far (p := ⟨gb412, 1, none⟩) (Kd.R_far (p := ⟨gb412, 0, none⟩) (Kd.R_types HO410.out BK412.out (by decide)) (fun _ hk => hk.2) (.int .i64 t406)) (fun _ hk => hk.2) (.int .i64 t407)) (fun _ hk => hk.2) (.slice Ao38 t408.length co38)) (fun _ h_ => h_.1))) hb); replace BK386 := As_ (blk_below (g := gb386) (o := .cells #[.int .i64 a0_0, .int .i64 a0_1, .slice A0_2 l0_2.length c0_2] 24 (0, 0)) (by (with_reducible repeat (first | refine kn_ ?_ _ | refine kd_ ?_ | refine ka_ ?_ _)); refine blk_far ?_ NB386_412.out _; refine blk_far ?_ NB386_412.out _; refine blk_far ?_ NB386_412.out _; (with_reducible repeat (first | refine kn_ ?_ _ | refine kd_ ?_ | refine ka_ ?_ _)); exact BK386.out) hb); replace BK399 := As_ (blk_below (g := gb399) (o := .cells #[.int .i64 t393, .int .i64 t394, .slice Ao24 t395.length co24] 47 (0, 0)) (by (with_reducible repeat (first | refine kn_ ?_ _ | refine kd_ ?_ | refine ka_ ?_ _)); refine blk_far ?_ NB399_412.out _; refine blk_far ?_ NB399_412.out _; refine blk_far ?_ NB399_412.out _; (with_reducible repeat (first | refine kn_ ?_ _ | refine kd_ ?_ | refine ka_ ?_ _)); exact BK399.out) hb); replace BK405 := As_ (blk_below (g := gb405) (o := .cells #[.int .i64 t400, .int .i64 t401, .slice Ao31 t402.length co31] 31 (0, 0)) (by (with_reducible repeat (first | refine kn_ ?_ _ | refine kd_ ?_ | refine ka_ ?_ _)); refine blk_far ?_ NB405_412.out _; refine blk_far ?_ NB405_412.out _; refine blk_far ?_ NB405_412.out _; (with_reducible repeat (first | refine kn_ ?_ _ | refine kd_ ?_ | refine ka_ ?_ _)); exact BK405.out) hb); replace BK412 := As_ (blk_below (g := gb412) (o := .cells #[.int .i64 t406, .int .i64 t407, .slice Ao38 t408.length co38] 47 (0, 0)) (by (with_reducible repeat (first | refine kn_ ?_ _ | refine kd_ ?_ | refine ka_ ?_ _)); refine blk_put (cs := #[.int .i64 t406, .int .i64 t407, .slice none 0 0]) ?_ 2 _ rfl; refine blk_put (cs := #[.int .i64 t406, .int .i64 0, .slice none 0 0]) ?_ 1 _ rfl; refine blk_put (cs := #[.int .i64 0, .int .i64 0, .slice none 0 0]) ?_ 0 _ rfl; (with_reducible repeat (first | refine kn_ ?_ _ | refine kd_ ?_ | refine ka_ ?_ _)); exact BK412.out) hb); replace HB := As_ (below_step (by repeat (first | (with_reducible first | exact HB.out | apply ba_ | apply bn_ | apply bd_ | refine below_setA ?_ (by assumption)) | exact HB.out)) hb); (try clear hb)))
    go_meet
    case rel => exact ⟨_, (true), (by first | rfl | (simp; done) | (simp [*]; done)), H', ⟨by first | omega | exact Nat.le_refl _⟩, ⟨by (with_reducible repeat (first | apply Kd.R_alloc | apply Kd.R_drewN | apply Kd.R_drew)); exact Kd.R_mono HO397.out (fun _ hk => hk.2)⟩, ⟨by (with_reducible repeat (first | apply Kd.R_alloc | apply Kd.R_drewN | apply Kd.R_drew)); exact Kd.R_mono HO404.out (fun _ hk => trivial)⟩, ⟨by (with_reducible repeat (first | apply Kd.R_alloc | apply Kd.R_drewN | apply Kd.R_drew)); exact Kd.R_mono HO410.out (fun _ hk => hk.2)⟩, ⟨by (with_reducible repeat (first | refine kn_ ?_ _ | refine kd_ ?_ | refine ka_ ?_ _)); exact BK386.out⟩, ⟨by (with_reducible repeat (first | refine kn_ ?_ _ | refine kd_ ?_ | refine ka_ ?_ _)); exact BK399.out⟩, ⟨by (with_reducible repeat (first | refine kn_ ?_ _ | refine kd_ ?_ | refine ka_ ?_ _)); exact BK405.out⟩, ⟨by (with_reducible repeat (first | refine kn_ ?_ _ | refine kd_ ?_ | refine ka_ ?_ _)); exact BK412.out⟩, ⟨by repeat (first | (with_reducible first | exact HB.out | apply ba_ | apply bn_ | apply bd_ | refine below_setA ?_ (by assumption)) | exact HB.out)⟩⟩
  case rest =>
   clear HC13
   try clear c1; try clear c2; try clear p2; try clear c3; try clear c4; try clear c5; try clear c5b0; try clear c7; try clear c9; try clear c19; try clear c20; try clear c21; try clear c22; try clear c28; try clear c29; try clear c34; try clear c35; try clear c36; try clear c40; try clear c41; try clear c42; try clear c43; try clear c45; try clear c46; try clear c49; try clear c50; try clear c51; try clear c53; try clear c54; try clear hcz15_0 hcz15_1 hcz15_2; try clear hcz17_0 hcz17_1 hcz17_2; try clear hcz23_0 hcz23_1 hcz23_2; try clear hcz25_0 hcz25_1 hcz25_2; try clear hcz30_0 hcz30_1 hcz30_2; try clear hcz37_0 hcz37_1 hcz37_2; try clear hcz44_0 hcz44_1 hcz44_2; try clear hcz47_0 hcz47_1 hcz47_2; try clear hcz52_0 hcz52_1 hcz52_2; try clear hcz55_0 hcz55_1 hcz55_2; try clear hcz7_0 hcz7_1 hcz7_2; try clear hfz15_0 hfz15_1 hfz15_2; try clear hfz17_0 hfz17_1 hfz17_2; try clear hfz23_0 hfz23_1 hfz23_2; try clear hfz25_0 hfz25_1 hfz25_2; try clear hfz30_0 hfz30_1 hfz30_2; try clear hfz37_0 hfz37_1 hfz37_2; try clear hfz44_0 hfz44_1 hfz44_2; try clear hfz47_0 hfz47_1 hfz47_2; try clear hfz52_0 hfz52_1 hfz52_2; try clear hfz55_0 hfz55_1 hfz55_2; try clear hfz7_0 hfz7_1 hfz7_2
   obtain ⟨kq, x48_12, rfl, HA, HJ12, HO_400002, HO_406002, HO_413002, BK386, BK399, BK405, BK412, HB⟩ := hcut
   rcases kq with _ | kj12
   · exact absurd HA.out (by simp [laws_FnExactMakePuzzle.j0])
   have H := HA.out
   clear HA
   simp only [laws_FnExactMakePuzzle.j0] at H
   by_cases c57 : x48_12 = true
   ·
    subst c57
    have H1 : (none) = some r := by rw [if_pos rfl] at H; exact H
    clear H
    have H := H1
    clear H1
    exact absurd H (by simp)
   replace c57 := Bool.eq_false_iff.mpr c57
   subst c57
   have H1 : ((laws_toCut.f kj12 a0_0 a0_1 l0_2).bind fun bt414 => ((laws_eqCut.f kj12 t400 t401 t402 bt414.1 bt414.2.1 bt414.2.2).bind fun t419 => (if t419 = true then ((laws_markCut.f kj12 t400 t401 t402 1).bind fun bt420 => (if bt420.1 < 0 then (laws_FnExactMakePuzzle.j1 kj12 a1 a2 t398 true a0_0 a0_1 l0_2 t393 t394 t395 t406 t407 t408) else ((laws_eqPuzzle.f kj12 t406 t407 t408 t393 t394 t395).bind fun t422 => (if t422 = true then (laws_FnExactMakePuzzle.j1 kj12 a1 a2 t398 (t411 != t398) a0_0 a0_1 l0_2 t393 t394 t395 t406 t407 t408) else (laws_FnExactMakePuzzle.j1 kj12 a1 a2 t398 true a0_0 a0_1 l0_2 t393 t394 t395 t406 t407 t408))))) else (none)))) = some r := by rw [if_neg (show ¬ (false = true) by decide)] at H; exact H
   clear H
   have H := H1
   clear H1
   replace H := Option.bind_eq_some_iff.mp H
   obtain ⟨⟨t414, t415, t416⟩, A580, H⟩ := H
   try dsimp only at H
   have A58 := As_ A580
   clear A580
   replace H := Option.bind_eq_some_iff.mp H
   obtain ⟨t419, A590, H⟩ := H
   try dsimp only at H
   have A59 := As_ A590
   clear A590
   by_cases c60 : t419 = true
   case neg =>
    replace c60 := Bool.eq_false_iff.mpr c60
    subst c60
    have H1 : (none) = some r := by rw [if_neg (show ¬ (false = true) by decide)] at H; exact H
    clear H
    have H := H1
    clear H1
    exact absurd H (by simp)

   subst c60
   have H1 : ((laws_markCut.f kj12 t400 t401 t402 1).bind fun bt420 => (if bt420.1 < 0 then (laws_FnExactMakePuzzle.j1 kj12 a1 a2 t398 true a0_0 a0_1 l0_2 t393 t394 t395 t406 t407 t408) else ((laws_eqPuzzle.f kj12 t406 t407 t408 t393 t394 t395).bind fun t422 => (if t422 = true then (laws_FnExactMakePuzzle.j1 kj12 a1 a2 t398 (t411 != t398) a0_0 a0_1 l0_2 t393 t394 t395 t406 t407 t408) else (laws_FnExactMakePuzzle.j1 kj12 a1 a2 t398 true a0_0 a0_1 l0_2 t393 t394 t395 t406 t407 t408))))) = some r := by rw [if_pos rfl] at H; exact H
   clear H
   have H := H1
   clear H1
   replace H := Option.bind_eq_some_iff.mp H
   obtain ⟨⟨t420, t421⟩, A610, H⟩ := H
   try dsimp only at H
   have A61 := As_ A610
   clear A610
   have HC62 := As_ H
   clear H
   try go_wp2
   replace HO_400002 := As_ (Kd.R_drew HO_400002.out)
   replace HO_406002 := As_ (Kd.R_drew HO_406002.out)
   replace HO_413002 := As_ (Kd.R_drew HO_413002.out)
   replace BK386 := As_ (blk_drew BK386.out)
   replace BK399 := As_ (blk_drew BK399.out)
   replace BK405 := As_ (blk_drew BK405.out)
   replace BK412 := As_ (blk_drew BK412.out)
   replace HB := As_ (below_drew1 HB.out)
   refine start_ (n := 5) (S := fun w' => w'.cell? ⟨gb405, 0, none⟩ = some (.int .i64 t400) ∧ w'.cell? ⟨gb405, 1, none⟩ = some (.int .i64 t401) ∧ w'.cell? ⟨gb405, 2, none⟩ = some (.slice Ao31 t402.length co31) ∧ w'.cell? ⟨gb386, 0, none⟩ = some (.int .i64 a0_0) ∧ w'.cell? ⟨gb386, 1, none⟩ = some (.int .i64 a0_1) ∧ w'.cell? ⟨gb386, 2, none⟩ = some (.slice A0_2 l0_2.length c0_2)) (ds := []) #[false, false, false, false, false] (by kernel_rfl) rfl rfl ⟨(blk_cell BK405.out 0).trans rfl, (blk_cell BK405.out 1).trans rfl, (blk_cell BK405.out 2).trans rfl, (blk_cell BK386.out 0).trans rfl, (blk_cell BK386.out 1).trans rfl, (blk_cell BK386.out 2).trans rfl⟩ (fun hHeld => ?_)
   generalize wc.drew = w63 at HO_400002 HO_406002 HO_413002 BK386 BK399 BK405 BK412 HB hHeld ⊢
   refine take_ (i := 0) (N := some 49) (v := ?_) (a' := ?_) #[true, false, false, false, false] rfl rfl (by kernel_rfl) (fun _ _ _ h => h) (Or.inl ⟨by rfl, ?_⟩) hHeld ?_ ?_; rotate_left
   ·
    rintro w' ⟨s0, s1, s2, s3, s4, s5⟩
    go_simp
    with_reducible rfl
   rotate_left
   · simp only [Act.put, sib_, sc0_, sc1_, i64_w, i32_w]; rfl
   refine take_ (i := 1) (N := some 50) (v := ?_) (a' := ?_) #[true, true, false, false, false] rfl rfl (by kernel_rfl) (fun _ _ _ h => h) (Or.inl ⟨by rfl, ?_⟩) hHeld ?_ ?_; rotate_left
   ·
    rintro w' ⟨s0, s1, s2, s3, s4, s5⟩
    go_simp
    with_reducible rfl
   rotate_left
   · simp only [Act.put, sib_, sc0_, sc1_, i64_w, i32_w]; rfl
   refine one_ (i := 2) (N := some 51) #[true, true, true, false, false] rfl rfl (by kernel_rfl) (by decide) (fun K hK => ?_)
   refine goes_ Try.func9 (by kernel_rfl) rfl #[.agg #[.int .i64 a0_0, .int .i64 a0_1, .slice A0_2 l0_2.length c0_2]] (by rfl) rfl rfl (by (try simp only [List.map_toArray, List.map_cons, List.map_nil]); first | done | rfl | (simp only [List.length_drop, List.length_take]; rfl)) ?_
   with_reducible refine (laws_toCut.calls kj12 a0_0 a0_1 _ _ l0_2 t414 t415 t416 _ ?side1 ?side2 A58.out).mono ?_
   (case side1 => repeat (first | exact (Kd.C_below HR0_2.out HB.out) | (with_reducible refine Kd.C_alloc ?_ _) | (with_reducible refine Kd.C_drewN ?_ _) | (with_reducible refine Kd.C_drew ?_)))
   (case side2 => exact HC0_2.out)
   rintro e w64 ⟨v417, rfl, ho0, hb⟩
   refine ⟨_, rfl, ?_⟩
   have HO418 := As_ (Kd.R_lower (Kd.R_new' ho0 (Kd.R_lt (by (with_reducible repeat (first | apply Kd.R_alloc | apply Kd.R_drewN | apply Kd.R_drew)); exact HO_406002.out))) (below_size (by repeat (first | (with_reducible first | exact HB.out | apply ba_ | apply bn_ | apply bd_ | refine below_setA ?_ (by assumption)) | exact HB.out))))
   replace HO_400002 := As_ (Kd.R_below (by (with_reducible repeat (first | apply Kd.R_alloc | apply Kd.R_drewN | apply Kd.R_drew)); exact HO_400002.out) hb)
   replace HO_406002 := As_ (Kd.R_elder' (by (with_reducible repeat (first | apply Kd.R_alloc | apply Kd.R_drewN | apply Kd.R_drew)); exact HO_406002.out) (Kd.R_base ho0) hb)
   replace HO_413002 := As_ (Kd.R_below (by (with_reducible repeat (first | apply Kd.R_alloc | apply Kd.R_drewN | apply Kd.R_drew)); exact HO_413002.out) hb)
   replace BK386 := As_ (blk_b hb BK386.out)
   replace BK399 := As_ (blk_b hb BK399.out)
   replace BK405 := As_ (blk_b hb BK405.out)
   replace BK412 := As_ (blk_b hb BK412.out)
   replace HB := As_ (below_step (by repeat (first | (with_reducible first | exact HB.out | apply ba_ | apply bn_ | apply bd_ | refine below_setA ?_ (by assumption)) | exact HB.out)) hb)
   (try clear hb)
   (try clear hb2)
   (try clear hk)
   (try clear hi)
   (try clear ho0)
   obtain ⟨Ao65, co65, eo65⟩ := Kd.R_slice HO418.out
   (first | subst eo65 | (injection eo65 with f1_ f2_ f3_; have f4_ := f1_.symm; have f5_ := f3_.symm; clear f1_ f2_ f3_; subst f4_; subst f5_))
   refine hK.out _ _ ⟨(blk_cell BK405.out 0).trans rfl, (blk_cell BK405.out 1).trans rfl, (blk_cell BK405.out 2).trans rfl, (blk_cell BK386.out 0).trans rfl, (blk_cell BK386.out 1).trans rfl, (blk_cell BK386.out 2).trans rfl⟩ (fun hHeld => ?_); clear hK K
   refine norm_ (a' := ?_) ?_ ?_; rotate_left
   ·
    show Act.put _ (some 51) _ = _
    simp only [Act.put, sib_, sc0_, sc1_, i64_w, i32_w]
    rfl
   refine one_ (i := 3) (N := some 52) #[true, true, true, true, false] rfl rfl (by kernel_rfl) (by decide) (fun K hK => ?_)
   refine goes_ Try.func12 (by kernel_rfl) rfl #[.agg #[.int .i64 t400, .int .i64 t401, .slice Ao31 t402.length co31], .agg #[.int .i64 t414, .int .i64 t415, .slice Ao65 t416.length co65]] (by rfl) rfl rfl (by (try simp only [List.map_toArray, List.map_cons, List.map_nil]); first | done | rfl | (simp only [List.length_drop, List.length_take]; rfl)) ?_
   with_reducible refine (laws_eqCut.calls kj12 t400 t401 _ _ t402 t414 t415 _ _ t416 true _ ?side1 ?side2 ?side3 ?side4 A59.out).mono ?_
   (case side1 => repeat (first | exact (Kd.R_reads' HO_406002.out).2.2 | (with_reducible refine Kd.C_alloc ?_ _) | (with_reducible refine Kd.C_drewN ?_ _) | (with_reducible refine Kd.C_drew ?_)))
   (case side2 => exact (Kd.R_reads' HO_406002.out).2.1)
   (case side3 => repeat (first | exact (Kd.R_reads' HO418.out).2.2 | (with_reducible refine Kd.C_alloc ?_ _) | (with_reducible refine Kd.C_drewN ?_ _) | (with_reducible refine Kd.C_drew ?_)))
   (case side4 => exact (Kd.R_reads' HO418.out).2.1)
   rintro e w66 ⟨rfl, hb⟩
   refine ⟨_, rfl, ?_⟩
   replace HO_400002 := As_ (Kd.R_below (by (with_reducible repeat (first | apply Kd.R_alloc | apply Kd.R_drewN | apply Kd.R_drew)); exact HO_400002.out) hb)
   replace HO_406002 := As_ (Kd.R_below (by (with_reducible repeat (first | apply Kd.R_alloc | apply Kd.R_drewN | apply Kd.R_drew)); exact HO_406002.out) hb)
   replace HO_413002 := As_ (Kd.R_below (by (with_reducible repeat (first | apply Kd.R_alloc | apply Kd.R_drewN | apply Kd.R_drew)); exact HO_413002.out) hb)
   replace HO418 := As_ (Kd.R_below (by (with_reducible repeat (first | apply Kd.R_alloc | apply Kd.R_drewN | apply Kd.R_drew)); exact HO418.out) hb)
   replace BK386 := As_ (blk_b hb BK386.out)
   replace BK399 := As_ (blk_b hb BK399.out)
   replace BK405 := As_ (blk_b hb BK405.out)
   replace BK412 := As_ (blk_b hb BK412.out)
   replace HB := As_ (below_step (by repeat (first | (with_reducible first | exact HB.out | apply ba_ | apply bn_ | apply bd_ | refine below_setA ?_ (by assumption)) | exact HB.out)) hb)
   (try clear hb)
   (try clear hb2)
   (try clear hk)
   (try clear hi)
   refine hK.out _ _ ⟨(blk_cell BK405.out 0).trans rfl, (blk_cell BK405.out 1).trans rfl, (blk_cell BK405.out 2).trans rfl, (blk_cell BK386.out 0).trans rfl, (blk_cell BK386.out 1).trans rfl, (blk_cell BK386.out 2).trans rfl⟩ (fun hHeld => ?_); clear hK K
   refine norm_ (a' := ?_) ?_ ?_; rotate_left
   ·
    show Act.put _ (some 52) _ = _
    simp only [Act.put, sib_, sc0_, sc1_, i64_w, i32_w]
    rfl
   refine pu_ (v := ?_) (a' := ?_) 4 (some 53) #[true, true, true, true, true] rfl rfl (by kernel_rfl) (fun _ _ _ h => h) (.inl ⟨by rfl, ?_⟩) ?_ ?_; rotate_left
   · intro w'; go_simp; with_reducible rfl
   rotate_left
   · simp only [Act.put, sib_, sc0_, sc1_, i64_w, i32_w]; rfl
   refine done_ (by kernel_rfl) ?_
   have hnb67 := NB405_386.out
   have hnc67 := NB386_405.out
   have hnb68 := NB405_399.out
   have hnc68 := NB399_405.out
   have hnb69 := NB405_412.out
   have hnc69 := NB412_405.out
   obtain ⟨hcz70_0, hcz70_1, hcz70_2⟩ := c3_ (w := w66) BK405.out
   obtain ⟨hfz70_0, hfz70_1, hfz70_2⟩ := z3_ BK405.out
   go_upto_region 14 with (first | ((with_reducible refine gate_callee (f := 13) rfl ?_); refine goesL_ (some 56) rfl rfl Try.func13 (by kernel_rfl) rfl #[.agg #[.int .i64 t400, .int .i64 t401, .slice Ao31 t402.length co31], .int .i64 1] rfl (by (try simp only [List.map_toArray, List.map_cons, List.map_nil]); first | done | rfl | (simp only [List.length_drop, List.length_take]; rfl)) ?_; (with_reducible refine (laws_markCut.calls kj12 t400 t401 (fun k_ => some k_ = (.slice Ao31 t402.length co31 : Value).ownBlock) (.slice Ao31 t402.length co31) t402 1 t420 t421 w _ ?side1 ?side2 A61.out).mono ?_); (case side1 => repeat (first | (with_reducible first | exact HB.out | apply ba_ | apply bn_ | apply bd_ | refine below_setA ?_ (by assumption)) | exact HB.out)); (case side2 => exact Kd.R_tight rfl HO_406002.out); rintro e w71 ⟨rfl, hy0, hb, hkp⟩; refine ⟨_, rfl, ?_⟩; replace HO_400002 := As_ (Kd.R_mono (ok' := fun k_ => some k_ ≠ (.slice Ao38 t408.length co38 : Value).ownBlock) (Kd.R_keptB ((Kd.R_apart' HO_400002.out (Kd.R_typed HO_406002.out) (by decide))) hkp (fun k_ hk_ hs_ => (hk_.2) hs_)) (fun k_ hk_ => hk_.1.1)); replace HO_413002 := As_ (Kd.R_mono (ok' := fun k_ => some k_ ≠ (.slice Ao24 t395.length co24 : Value).ownBlock) (Kd.R_keptB ((Kd.R_apart' HO_413002.out (Kd.R_typed HO_406002.out) (by decide))) hkp (fun k_ hk_ hs_ => (hk_.2) hs_)) (fun k_ hk_ => hk_.1.1)); replace BK386 := As_ (blk_kept BK386.out hkp (fun hs_ => (fun e_ => (Kd.R_ne HO_406002.out BK386.out (by decide)) e_) hs_)); replace BK399 := As_ (blk_kept BK399.out hkp (fun hs_ => (fun e_ => (Kd.R_ne HO_406002.out BK399.out (by decide)) e_) hs_)); replace BK405 := As_ (blk_kept BK405.out hkp (fun hs_ => (fun e_ => (Kd.R_ne HO_406002.out BK405.out (by decide)) e_) hs_)); replace BK412 := As_ (blk_kept BK412.out hkp (fun hs_ => (fun e_ => (Kd.R_ne HO_406002.out BK412.out (by decide)) e_) hs_)); replace HO_406002 := As_ (Kd.R_reok rfl hy0 (fun k_ e_ => HO_406002.out.1 k_ e_)); replace HO418 := As_ (Kd.R_mono (ok' := fun k_ => some k_ ≠ (.slice Ao31 t402.length co31 : Value).ownBlock) (Kd.R_keptB (HO418.out) hkp (fun k_ hk_ hs_ => (hk_.2) hs_)) (fun k_ hk_ => hk_.1.2)); replace HB := As_ (hb); (try clear hb); (try clear hkp); (try clear hy0)))
   (try simp only [Act.put, sib_, sc0_, sc1_])
   go_cut [69] (fun v69 wc => ∃ (kq : Nat) (x69_61 : Bool), v69 = .bool x69_61 ∧ Aside0 (laws_FnExactMakePuzzle.j1 kq a1 a2 t398 x69_61 a0_0 a0_1 l0_2 t393 t394 t395 t406 t407 t408 = some r) ∧ Aside0 (kq ≤ kj12) ∧ Aside0 (Kd.R k42 42 wc w.heap.size (fun k_ => some k_ ≠ ((.slice Ao38 t408.length co38) : Value).ownBlock) (.slice Ao24 t395.length co24) t395) ∧ Aside0 (Kd.R k87 87 wc w.heap.size (fun _ => True) (.slice Ao31 t402.length co31) t421) ∧ Aside0 (Kd.R k42 42 wc w.heap.size (fun k_ => some k_ ≠ ((.slice Ao24 t395.length co24) : Value).ownBlock) (.slice Ao38 t408.length co38) t408) ∧ Aside0 (wc.heap[gb386]? = some (.cells #[.int .i64 a0_0, .int .i64 a0_1, (.slice A0_2 l0_2.length c0_2)] 24 (0, 0))) ∧ Aside0 (wc.heap[gb399]? = some (.cells #[.int .i64 t393, .int .i64 t394, (.slice Ao24 t395.length co24)] 47 (0, 0))) ∧ Aside0 (wc.heap[gb405]? = some (.cells #[.int .i64 t400, .int .i64 t401, (.slice Ao31 t402.length co31)] 31 (0, 0))) ∧ Aside0 (wc.heap[gb412]? = some (.cells #[.int .i64 t406, .int .i64 t407, (.slice Ao38 t408.length co38)] 47 (0, 0))) ∧ Aside0 (Below w.heap.size w wc))
   case first =>
    have H := HC62.out
    clear HC62
    by_cases c72 : t420 < 0
    ·
     rw [if_pos c72] at H
     have c72b0 : decide (t420 < 0) = true := decide_eq_true c72
     clear c72
     (first | rw [c72b0] | (simp only [i64_w, i32_w]; rw [c72b0]) | skip)
     have H' := As_ H
     clear H
     go_wp2
     go_meet
     case rel => exact ⟨_, (true), (by first | rfl | (simp; done) | (simp [*]; done)), H', ⟨by have := HJ12.out; first | omega | exact Nat.le_refl _⟩, ⟨by (with_reducible repeat (first | apply Kd.R_alloc | apply Kd.R_drewN | apply Kd.R_drew)); exact HO_400002.out⟩, ⟨by (with_reducible repeat (first | apply Kd.R_alloc | apply Kd.R_drewN | apply Kd.R_drew)); exact Kd.R_mono HO_406002.out (fun _ hk => trivial)⟩, ⟨by (with_reducible repeat (first | apply Kd.R_alloc | apply Kd.R_drewN | apply Kd.R_drew)); exact HO_413002.out⟩, ⟨by (with_reducible repeat (first | refine kn_ ?_ _ | refine kd_ ?_ | refine ka_ ?_ _)); exact BK386.out⟩, ⟨by (with_reducible repeat (first | refine kn_ ?_ _ | refine kd_ ?_ | refine ka_ ?_ _)); exact BK399.out⟩, ⟨by (with_reducible repeat (first | refine kn_ ?_ _ | refine kd_ ?_ | refine ka_ ?_ _)); exact BK405.out⟩, ⟨by (with_reducible repeat (first | refine kn_ ?_ _ | refine kd_ ?_ | refine ka_ ?_ _)); exact BK412.out⟩, ⟨by repeat (first | (with_reducible first | exact HB.out | apply ba_ | apply bn_ | apply bd_ | refine below_setA ?_ (by assumption)) | exact HB.out)⟩⟩
    ·
     rw [if_neg c72] at H
     have c72b0 : decide (t420 < 0) = false := decide_eq_false c72
     clear c72
     (first | rw [c72b0] | (simp only [i64_w, i32_w]; rw [c72b0]) | skip)
     replace H := Option.bind_eq_some_iff.mp H
     obtain ⟨t422, A730, H⟩ := H
     try dsimp only at H
     have A73 := As_ A730
     clear A730
     by_cases c74 : t422 = true
     ·
      subst c74
      have H1 : (laws_FnExactMakePuzzle.j1 kj12 a1 a2 t398 (t411 != t398) a0_0 a0_1 l0_2 t393 t394 t395 t406 t407 t408) = some r := by rw [if_pos rfl] at H; exact H
      clear H
      have H := H1
      clear H1
      have H' := As_ H
      clear H
      have hnb75 := NB412_386.out
      have hnc75 := NB386_412.out
      have hnb76 := NB412_399.out
      have hnc76 := NB399_412.out
      have hnb77 := NB412_405.out
      have hnc77 := NB405_412.out
      obtain ⟨hcz78_0, hcz78_1, hcz78_2⟩ := c3_ (w := w71) BK412.out
      obtain ⟨hfz78_0, hfz78_1, hfz78_2⟩ := z3_ BK412.out
      have hnb79 := NB399_386.out
      have hnc79 := NB386_399.out
      have hnb80 := NB399_405.out
      have hnc80 := NB405_399.out
      obtain ⟨hcz81_0, hcz81_1, hcz81_2⟩ := c3_ (w := w71) BK399.out
      obtain ⟨hfz81_0, hfz81_1, hfz81_2⟩ := z3_ BK399.out
      go_wp2_with (first | (go_at_call 21; (with_reducible refine (laws_eqPuzzle.calls kj12 t406 t407 _ _ t408 t393 t394 _ _ t395 true _ ?side1 ?side2 ?side3 ?side4 A73.out).mono ?_); (case side1 => repeat (first | exact (Kd.R_reads' HO_413002.out).2.2 | (with_reducible refine Kd.C_alloc ?_ _) | (with_reducible refine Kd.C_drewN ?_ _) | (with_reducible refine Kd.C_drew ?_))); (case side2 => exact (Kd.R_reads' HO_413002.out).2.1); (case side3 => repeat (first | exact (Kd.R_reads' HO_400002.out).2.2 | (with_reducible refine Kd.C_alloc ?_ _) | (with_reducible refine Kd.C_drewN ?_ _) | (with_reducible refine Kd.C_drew ?_))); (case side4 => exact (Kd.R_reads' HO_400002.out).2.1); rintro e w82 ⟨rfl, hb⟩; replace HO_400002 := As_ (Kd.R_below (by (with_reducible repeat (first | apply Kd.R_alloc | apply Kd.R_drewN | apply Kd.R_drew)); exact HO_400002.out) hb); replace HO_406002 := As_ (Kd.R_below (by (with_reducible repeat (first | apply Kd.R_alloc | apply Kd.R_drewN | apply Kd.R_drew)); exact HO_406002.out) hb); replace HO_413002 := As_ (Kd.R_below (by (with_reducible repeat (first | apply Kd.R_alloc | apply Kd.R_drewN | apply Kd.R_drew)); exact HO_413002.out) hb); replace HO418 := As_ (Kd.R_below (by (with_reducible repeat (first | apply Kd.R_alloc | apply Kd.R_drewN | apply Kd.R_drew)); exact HO418.out) hb); replace BK386 := As_ (blk_b hb BK386.out); replace BK399 := As_ (blk_b hb BK399.out); replace BK405 := As_ (blk_b hb BK405.out); replace BK412 := As_ (blk_b hb BK412.out); replace HB := As_ (below_step (by repeat (first | (with_reducible first | exact HB.out | apply ba_ | apply bn_ | apply bd_ | refine below_setA ?_ (by assumption)) | exact HB.out)) hb); (try clear hb)))
      go_meet
      case rel => exact ⟨_, ((t411 != t398)), (by first | rfl | (simp; done) | (simp [*]; done)), H', ⟨by have := HJ12.out; first | omega | exact Nat.le_refl _⟩, ⟨by (with_reducible repeat (first | apply Kd.R_alloc | apply Kd.R_drewN | apply Kd.R_drew)); exact HO_400002.out⟩, ⟨by (with_reducible repeat (first | apply Kd.R_alloc | apply Kd.R_drewN | apply Kd.R_drew)); exact Kd.R_mono HO_406002.out (fun _ hk => trivial)⟩, ⟨by (with_reducible repeat (first | apply Kd.R_alloc | apply Kd.R_drewN | apply Kd.R_drew)); exact HO_413002.out⟩, ⟨by (with_reducible repeat (first | refine kn_ ?_ _ | refine kd_ ?_ | refine ka_ ?_ _)); exact BK386.out⟩, ⟨by (with_reducible repeat (first | refine kn_ ?_ _ | refine kd_ ?_ | refine ka_ ?_ _)); exact BK399.out⟩, ⟨by (with_reducible repeat (first | refine kn_ ?_ _ | refine kd_ ?_ | refine ka_ ?_ _)); exact BK405.out⟩, ⟨by (with_reducible repeat (first | refine kn_ ?_ _ | refine kd_ ?_ | refine ka_ ?_ _)); exact BK412.out⟩, ⟨by repeat (first | (with_reducible first | exact HB.out | apply ba_ | apply bn_ | apply bd_ | refine below_setA ?_ (by assumption)) | exact HB.out)⟩⟩
     ·
      replace c74 := Bool.eq_false_iff.mpr c74
      subst c74
      have H1 : (laws_FnExactMakePuzzle.j1 kj12 a1 a2 t398 true a0_0 a0_1 l0_2 t393 t394 t395 t406 t407 t408) = some r := by rw [if_neg (show ¬ (false = true) by decide)] at H; exact H
      clear H
      have H := H1
      clear H1
      have H' := As_ H
      clear H
      have hnb83 := NB412_386.out
      have hnc83 := NB386_412.out
      have hnb84 := NB412_399.out
      have hnc84 := NB399_412.out
      have hnb85 := NB412_405.out
      have hnc85 := NB405_412.out
      obtain ⟨hcz86_0, hcz86_1, hcz86_2⟩ := c3_ (w := w71) BK412.out
      obtain ⟨hfz86_0, hfz86_1, hfz86_2⟩ := z3_ BK412.out
      have hnb87 := NB399_386.out
      have hnc87 := NB386_399.out
      have hnb88 := NB399_405.out
      have hnc88 := NB405_399.out
      obtain ⟨hcz89_0, hcz89_1, hcz89_2⟩ := c3_ (w := w71) BK399.out
      obtain ⟨hfz89_0, hfz89_1, hfz89_2⟩ := z3_ BK399.out
      go_wp2_with (first | (go_at_call 21; (with_reducible refine (laws_eqPuzzle.calls kj12 t406 t407 _ _ t408 t393 t394 _ _ t395 false _ ?side1 ?side2 ?side3 ?side4 A73.out).mono ?_); (case side1 => repeat (first | exact (Kd.R_reads' HO_413002.out).2.2 | (with_reducible refine Kd.C_alloc ?_ _) | (with_reducible refine Kd.C_drewN ?_ _) | (with_reducible refine Kd.C_drew ?_))); (case side2 => exact (Kd.R_reads' HO_413002.out).2.1); (case side3 => repeat (first | exact (Kd.R_reads' HO_400002.out).2.2 | (with_reducible refine Kd.C_alloc ?_ _) | (with_reducible refine Kd.C_drewN ?_ _) | (with_reducible refine Kd.C_drew ?_))); (case side4 => exact (Kd.R_reads' HO_400002.out).2.1); rintro e w90 ⟨rfl, hb⟩; replace HO_400002 := As_ (Kd.R_below (by (with_reducible repeat (first | apply Kd.R_alloc | apply Kd.R_drewN | apply Kd.R_drew)); exact HO_400002.out) hb); replace HO_406002 := As_ (Kd.R_below (by (with_reducible repeat (first | apply Kd.R_alloc | apply Kd.R_drewN | apply Kd.R_drew)); exact HO_406002.out) hb); replace HO_413002 := As_ (Kd.R_below (by (with_reducible repeat (first | apply Kd.R_alloc | apply Kd.R_drewN | apply Kd.R_drew)); exact HO_413002.out) hb); replace HO418 := As_ (Kd.R_below (by (with_reducible repeat (first | apply Kd.R_alloc | apply Kd.R_drewN | apply Kd.R_drew)); exact HO418.out) hb); replace BK386 := As_ (blk_b hb BK386.out); replace BK399 := As_ (blk_b hb BK399.out); replace BK405 := As_ (blk_b hb BK405.out); replace BK412 := As_ (blk_b hb BK412.out); replace HB := As_ (below_step (by repeat (first | (with_reducible first | exact HB.out | apply ba_ | apply bn_ | apply bd_ | refine below_setA ?_ (by assumption)) | exact HB.out)) hb); (try clear hb)))
      go_meet
      case rel => exact ⟨_, (true), (by first | rfl | (simp; done) | (simp [*]; done)), H', ⟨by have := HJ12.out; first | omega | exact Nat.le_refl _⟩, ⟨by (with_reducible repeat (first | apply Kd.R_alloc | apply Kd.R_drewN | apply Kd.R_drew)); exact HO_400002.out⟩, ⟨by (with_reducible repeat (first | apply Kd.R_alloc | apply Kd.R_drewN | apply Kd.R_drew)); exact Kd.R_mono HO_406002.out (fun _ hk => trivial)⟩, ⟨by (with_reducible repeat (first | apply Kd.R_alloc | apply Kd.R_drewN | apply Kd.R_drew)); exact HO_413002.out⟩, ⟨by (with_reducible repeat (first | refine kn_ ?_ _ | refine kd_ ?_ | refine ka_ ?_ _)); exact BK386.out⟩, ⟨by (with_reducible repeat (first | refine kn_ ?_ _ | refine kd_ ?_ | refine ka_ ?_ _)); exact BK399.out⟩, ⟨by (with_reducible repeat (first | refine kn_ ?_ _ | refine kd_ ?_ | refine ka_ ?_ _)); exact BK405.out⟩, ⟨by (with_reducible repeat (first | refine kn_ ?_ _ | refine kd_ ?_ | refine ka_ ?_ _)); exact BK412.out⟩, ⟨by repeat (first | (with_reducible first | exact HB.out | apply ba_ | apply bn_ | apply bd_ | refine below_setA ?_ (by assumption)) | exact HB.out)⟩⟩
   case rest =>
    clear HC62
    try clear c1; try clear c2; try clear p2; try clear c3; try clear c4; try clear c5; try clear c5b0; try clear c6; try clear c7; try clear c8; try clear c9; try clear c12; try clear c13; try clear c19; try clear c20; try clear c21; try clear c22; try clear c28; try clear c29; try clear c34; try clear c35; try clear c36; try clear c40; try clear c41; try clear c42; try clear c43; try clear c45; try clear c46; try clear c49; try clear c50; try clear c51; try clear c53; try clear c54; try clear c57; try clear c60; try clear c67; try clear c68; try clear c69; try clear c72; try clear c72b0; try clear c74; try clear c75; try clear c76; try clear c77; try clear c79; try clear c80; try clear c83; try clear c84; try clear c85; try clear c87; try clear c88; try clear hcz15_0 hcz15_1 hcz15_2; try clear hcz17_0 hcz17_1 hcz17_2; try clear hcz23_0 hcz23_1 hcz23_2; try clear hcz25_0 hcz25_1 hcz25_2; try clear hcz30_0 hcz30_1 hcz30_2; try clear hcz37_0 hcz37_1 hcz37_2; try clear hcz44_0 hcz44_1 hcz44_2; try clear hcz47_0 hcz47_1 hcz47_2; try clear hcz52_0 hcz52_1 hcz52_2; try clear hcz55_0 hcz55_1 hcz55_2; try clear hcz70_0 hcz70_1 hcz70_2; try clear hcz78_0 hcz78_1 hcz78_2; try clear hcz7_0 hcz7_1 hcz7_2; try clear hcz81_0 hcz81_1 hcz81_2; try clear hcz86_0 hcz86_1 hcz86_2; try clear hcz89_0 hcz89_1 hcz89_2; try clear hfz15_0 hfz15_1 hfz15_2; try clear hfz17_0 hfz17_1 hfz17_2; try clear hfz23_0 hfz23_1 hfz23_2; try clear hfz25_0 hfz25_1 hfz25_2; try clear hfz30_0 hfz30_1 hfz30_2; try clear hfz37_0 hfz37_1 hfz37_2; try clear hfz44_0 hfz44_1 hfz44_2; try clear hfz47_0 hfz47_1 hfz47_2; try clear hfz52_0 hfz52_1 hfz52_2; try clear hfz55_0 hfz55_1 hfz55_2; try clear hfz70_0 hfz70_1 hfz70_2; try clear hfz78_0 hfz78_1 hfz78_2; try clear hfz7_0 hfz7_1 hfz7_2; try clear hfz81_0 hfz81_1 hfz81_2; try clear hfz86_0 hfz86_1 hfz86_2; try clear hfz89_0 hfz89_1 hfz89_2; try clear p2
    obtain ⟨kq, x69_61, rfl, HA, HJ61, HO_400002, HO_406002, HO_413002, BK386, BK399, BK405, BK412, HB⟩ := hcut
    have hl406002_61 := (Kd.R_reads' HO_406002.out).1
    rw [hl406002_61] at HO_406002
    (try simp only [hl406002_61])
    (try simp only [hl406002_61] at BK386)
    (try simp only [hl406002_61] at BK399)
    (try simp only [hl406002_61] at BK405)
    (try simp only [hl406002_61] at BK412)
    (try simp only [hl406002_61] at HO_400002)
    (try simp only [hl406002_61] at HO_413002)
    rcases kq with _ | kj61
    · exact absurd HA.out (by simp [laws_FnExactMakePuzzle.j1])
    have H := HA.out
    clear HA
    simp only [laws_FnExactMakePuzzle.j1] at H
    by_cases c91 : x69_61 = true
    ·
     subst c91
     have H1 : (none) = some r := by rw [if_pos rfl] at H; exact H
     clear H
     have H := H1
     clear H1
     exact absurd H (by simp)
    replace c91 := Bool.eq_false_iff.mpr c91
    subst c91
    have H1 : ((laws_markPuzzle.f kj61 t406 t407 t408 1).bind fun bt423 => ((laws_heldPuzzle.f kj61 t406 t407 bt423.2 1).bind fun t425 => (if t425 < 0 then (none) else (if t425 = bt423.1 then ((laws_toCut.f kj61 a0_0 a0_1 l0_2).bind fun bt426 => ((impl_MakePuzzle.f kj61 bt426.1 bt426.2.1 bt426.2.2 a1 a2).bind fun bt431 => ((laws_eqPuzzle.f kj61 bt431.1 bt431.2.1 bt431.2.2.1 t393 t394 t395).bind fun t438 => (if t438 = true then (laws_FnExactMakePuzzle.j2 kj61 bt423.1 (bt431.2.2.2 != t398) t406 t407 bt423.2) else (laws_FnExactMakePuzzle.j2 kj61 bt423.1 true t406 t407 bt423.2))))) else (none))))) = some r := by rw [if_neg (show ¬ (false = true) by decide)] at H; exact H
    clear H
    have H := H1
    clear H1
    replace H := Option.bind_eq_some_iff.mp H
    obtain ⟨⟨t423, t424⟩, A920, H⟩ := H
    try dsimp only at H
    have A92 := As_ A920
    clear A920
    replace H := Option.bind_eq_some_iff.mp H
    obtain ⟨t425, A930, H⟩ := H
    try dsimp only at H
    have A93 := As_ A930
    clear A930
    by_cases c94 : t425 < 0
    · rw [if_pos c94] at H; exact absurd H (by simp)
    rw [if_neg c94] at H
    have c94b0 : decide (t425 < 0) = false := decide_eq_false c94
    clear c94
    by_cases c95 : t425 = t423
    case neg => rw [if_neg c95] at H; exact absurd H (by simp)
    rw [if_pos c95] at H
    have c95b0 : (t425 == t423) = true := beq_iff_eq.mpr c95
    have c95b1 : (t425 != t423) = false := bne_eq_false_iff_eq.mpr c95
    clear c95
    replace H := Option.bind_eq_some_iff.mp H
    obtain ⟨⟨t426, t427, t428⟩, A960, H⟩ := H
    try dsimp only at H
    have A96 := As_ A960
    clear A960
    replace H := Option.bind_eq_some_iff.mp H
    obtain ⟨⟨t431, t432, t433, t436⟩, A970, H⟩ := H
    try dsimp only at H
    have A97 := As_ A970
    clear A970
    have HC98 := As_ H
    clear H
    have hnb99 := NB412_386.out
    have hnc99 := NB386_412.out
    have hnb100 := NB412_399.out
    have hnc100 := NB399_412.out
    have hnb101 := NB412_405.out
    have hnc101 := NB405_412.out
    obtain ⟨hcz102_0, hcz102_1, hcz102_2⟩ := c3_ (w := wc) BK412.out
    obtain ⟨hfz102_0, hfz102_1, hfz102_2⟩ := z3_ BK412.out
    go_upto_region 25 with (first | ((with_reducible refine gate_callee (f := 22) rfl ?_); refine goesL_ (some 72) rfl rfl Try.func22 (by kernel_rfl) rfl #[.agg #[.int .i64 t406, .int .i64 t407, .slice Ao38 t408.length co38], .int .i64 1] rfl (by (try simp only [List.map_toArray, List.map_cons, List.map_nil]); first | done | rfl | (simp only [List.length_drop, List.length_take]; rfl)) ?_; (with_reducible refine (laws_markPuzzle.calls kj61 t406 t407 (fun k_ => some k_ = (.slice Ao38 t408.length co38 : Value).ownBlock) (.slice Ao38 t408.length co38) t408 1 t423 t424 w _ ?side1 ?side2 A92.out).mono ?_); (case side1 => repeat (first | (with_reducible first | exact HB.out | apply ba_ | apply bn_ | apply bd_ | refine below_setA ?_ (by assumption)) | exact HB.out)); (case side2 => exact Kd.R_tight rfl HO_413002.out); rintro e w103 ⟨rfl, hy0, hb, hkp⟩; refine ⟨_, rfl, ?_⟩; replace HO_400002 := As_ (Kd.R_mono (ok' := fun k_ => some k_ ≠ (.slice Ao38 t408.length co38 : Value).ownBlock) (Kd.R_keptB (HO_400002.out) hkp (fun k_ hk_ hs_ => (hk_) hs_)) (fun k_ hk_ => hk_.1)); replace HO_406002 := As_ (Kd.R_mono (ok' := fun k_ => True) (Kd.R_keptB ((Kd.R_apart' HO_406002.out (Kd.R_typed HO_413002.out) (by decide))) hkp (fun k_ hk_ hs_ => (hk_.2) hs_)) (fun k_ hk_ => trivial)); replace BK386 := As_ (blk_kept BK386.out hkp (fun hs_ => (fun e_ => (Kd.R_ne HO_413002.out BK386.out (by decide)) e_) hs_)); replace BK399 := As_ (blk_kept BK399.out hkp (fun hs_ => (fun e_ => (Kd.R_ne HO_413002.out BK399.out (by decide)) e_) hs_)); replace BK405 := As_ (blk_kept BK405.out hkp (fun hs_ => (fun e_ => (Kd.R_ne HO_413002.out BK405.out (by decide)) e_) hs_)); replace BK412 := As_ (blk_kept BK412.out hkp (fun hs_ => (fun e_ => (Kd.R_ne HO_413002.out BK412.out (by decide)) e_) hs_)); replace HO_413002 := As_ (Kd.R_reok rfl hy0 (fun k_ e_ => HO_413002.out.1 k_ e_)); replace HB := As_ (hb); (try clear hb); (try clear hkp); (try clear hy0); obtain ⟨hcz104_0, hcz104_1, hcz104_2⟩ := c3_ (w := w103) BK412.out; obtain ⟨hfz104_0, hfz104_1, hfz104_2⟩ := z3_ BK412.out) | ((with_reducible refine gate_callee (f := 23) rfl ?_); refine goesL_ (some 75) rfl rfl Try.func23 (by kernel_rfl) rfl #[.agg #[.int .i64 t406, .int .i64 t407, .slice Ao38 t424.length co38], .int .i64 1] rfl (by (try simp only [List.map_toArray, List.map_cons, List.map_nil]); first | done | (rw [show t424.length = t408.length from (Kd.R_reads' HO_413002.out).1.symm] <;> rfl) | rfl | (simp only [List.length_drop, List.length_take]; rfl)) ?_; (with_reducible refine (laws_heldPuzzle.calls kj61 t406 t407 _ _ t424 1 t425 _ ?side1 ?side2 A93.out).mono ?_); (case side1 => repeat (first | exact (Kd.R_reads' HO_413002.out).2.2 | (with_reducible refine Kd.C_alloc ?_ _) | (with_reducible refine Kd.C_drewN ?_ _) | (with_reducible refine Kd.C_drew ?_))); (case side2 => rw [show t424.length = t408.length from (Kd.R_reads' HO_413002.out).1.symm]; exact (Kd.R_reads' HO_413002.out).2.1); rintro e w105 ⟨rfl, hb⟩; refine ⟨_, rfl, ?_⟩; replace HO_400002 := As_ (Kd.R_below (by (with_reducible repeat (first | apply Kd.R_alloc | apply Kd.R_drewN | apply Kd.R_drew)); exact HO_400002.out) hb); replace HO_406002 := As_ (Kd.R_below (by (with_reducible repeat (first | apply Kd.R_alloc | apply Kd.R_drewN | apply Kd.R_drew)); exact HO_406002.out) hb); replace HO_413002 := As_ (Kd.R_below (by (with_reducible repeat (first | apply Kd.R_alloc | apply Kd.R_drewN | apply Kd.R_drew)); exact HO_413002.out) hb); replace BK386 := As_ (blk_b hb BK386.out); replace BK399 := As_ (blk_b hb BK399.out); replace BK405 := As_ (blk_b hb BK405.out); replace BK412 := As_ (blk_b hb BK412.out); replace HB := As_ (below_step (by repeat (first | (with_reducible first | exact HB.out | apply ba_ | apply bn_ | apply bd_ | refine below_setA ?_ (by assumption)) | exact HB.out)) hb); (try clear hb); have hnb106 := NB386_399.out; have hnc106 := NB399_386.out; have hnb107 := NB386_405.out; have hnc107 := NB405_386.out; obtain ⟨hcz108_0, hcz108_1, hcz108_2⟩ := c3_ (w := w105) BK386.out; obtain ⟨hfz108_0, hfz108_1, hfz108_2⟩ := z3_ BK386.out) | ((with_reducible refine gate_callee (f := 9) rfl ?_); refine goesL_ (some 83) rfl rfl Try.func9 (by kernel_rfl) rfl #[.agg #[.int .i64 a0_0, .int .i64 a0_1, .slice A0_2 l0_2.length c0_2]] rfl (by (try simp only [List.map_toArray, List.map_cons, List.map_nil]); first | done | rfl | (simp only [List.length_drop, List.length_take]; rfl)) ?_; (with_reducible refine (laws_toCut.calls kj61 a0_0 a0_1 _ _ l0_2 t426 t427 t428 _ ?side1 ?side2 A96.out).mono ?_); (case side1 => repeat (first | exact (Kd.C_below HR0_2.out HB.out) | (with_reducible refine Kd.C_alloc ?_ _) | (with_reducible refine Kd.C_drewN ?_ _) | (with_reducible refine Kd.C_drew ?_))); (case side2 => exact HC0_2.out); rintro e w109 ⟨v429, rfl, ho0, hb⟩; refine ⟨_, rfl, ?_⟩; have HO430 := As_ (Kd.R_lower (Kd.R_new' ho0 (Kd.R_lt (by (with_reducible repeat (first | apply Kd.R_alloc | apply Kd.R_drewN | apply Kd.R_drew)); exact HO_406002.out))) (below_size (by repeat (first | (with_reducible first | exact HB.out | apply ba_ | apply bn_ | apply bd_ | refine below_setA ?_ (by assumption)) | exact HB.out)))); replace HO_400002 := As_ (Kd.R_below (by (with_reducible repeat (first | apply Kd.R_alloc | apply Kd.R_drewN | apply Kd.R_drew)); exact HO_400002.out) hb); replace HO_406002 := As_ (Kd.R_elder' (by (with_reducible repeat (first | apply Kd.R_alloc | apply Kd.R_drewN | apply Kd.R_drew)); exact HO_406002.out) (Kd.R_base ho0) hb); replace HO_413002 := As_ (Kd.R_below (by (with_reducible repeat (first | apply Kd.R_alloc | apply Kd.R_drewN | apply Kd.R_drew)); exact HO_413002.out) hb); replace BK386 := As_ (blk_b hb BK386.out); replace BK399 := As_ (blk_b hb BK399.out); replace BK405 := As_ (blk_b hb BK405.out); replace BK412 := As_ (blk_b hb BK412.out); replace HB := As_ (below_step (by repeat (first | (with_reducible first | exact HB.out | apply ba_ | apply bn_ | apply bd_ | refine below_setA ?_ (by assumption)) | exact HB.out)) hb); (try clear hb); (try clear ho0); obtain ⟨Ao110, co110, eo110⟩ := Kd.R_slice HO430.out; subst eo110) | ((with_reducible refine gate_callee (f := 20) rfl ?_); refine goesL_ (some 86) rfl rfl Try.func20 (by kernel_rfl) rfl #[.agg #[.int .i64 t426, .int .i64 t427, .slice Ao110 t428.length co110], .int .i64 a1, .int .i64 a2] rfl (by (try simp only [List.map_toArray, List.map_cons, List.map_nil]); first | done | rfl | (simp only [List.length_drop, List.length_take]; rfl)) ?_; (with_reducible refine (impl_MakePuzzle.calls kj61 t426 t427 _ _ t428 a1 a2 t431 t432 t433 t436 _ ?side1 ?side2 A97.out).mono ?_); (case side1 => repeat (first | exact (Kd.R_reads' HO430.out).2.2 | (with_reducible refine Kd.C_alloc ?_ _) | (with_reducible refine Kd.C_drewN ?_ _) | (with_reducible refine Kd.C_drew ?_))); (case side2 => exact (Kd.R_reads' HO430.out).2.1); rintro e w111 ⟨v434, rfl, ho0, hb⟩; refine ⟨_, rfl, ?_⟩; have HO435 := As_ (Kd.R_lower (Kd.R_new' (Kd.R_new' ho0 (Kd.R_lt (by (with_reducible repeat (first | apply Kd.R_alloc | apply Kd.R_drewN | apply Kd.R_drew)); exact HO_400002.out))) (Kd.R_lt (by (with_reducible repeat (first | apply Kd.R_alloc | apply Kd.R_drewN | apply Kd.R_drew)); exact HO_413002.out))) (below_size (by repeat (first | (with_reducible first | exact HB.out | apply ba_ | apply bn_ | apply bd_ | refine below_setA ?_ (by assumption)) | exact HB.out)))); replace HO_400002 := As_ (Kd.R_elder' (by (with_reducible repeat (first | apply Kd.R_alloc | apply Kd.R_drewN | apply Kd.R_drew)); exact HO_400002.out) (Kd.R_base ho0) hb); replace HO_406002 := As_ (Kd.R_below (by (with_reducible repeat (first | apply Kd.R_alloc | apply Kd.R_drewN | apply Kd.R_drew)); exact HO_406002.out) hb); replace HO_413002 := As_ (Kd.R_elder' (by (with_reducible repeat (first | apply Kd.R_alloc | apply Kd.R_drewN | apply Kd.R_drew)); exact HO_413002.out) (Kd.R_base ho0) hb); replace HO430 := As_ (Kd.R_below (by (with_reducible repeat (first | apply Kd.R_alloc | apply Kd.R_drewN | apply Kd.R_drew)); exact HO430.out) hb); replace BK386 := As_ (blk_b hb BK386.out); replace BK399 := As_ (blk_b hb BK399.out); replace BK405 := As_ (blk_b hb BK405.out); replace BK412 := As_ (blk_b hb BK412.out); replace HB := As_ (below_step (by repeat (first | (with_reducible first | exact HB.out | apply ba_ | apply bn_ | apply bd_ | refine below_setA ?_ (by assumption)) | exact HB.out)) hb); (try clear hb); (try clear ho0)) | ((with_reducible refine gate_dst (N := 16) rfl ?_); refine box_event rfl (N := 16) rfl (cs := #[.int .i64 0, .int .i64 0, .slice none 0 0]) (t := 47) ?hr ?_; (case hr => first | (go_simp; done) | (go_simp; rfl)); intro gb437 hg w112 hbox hb; have BK437 := As_ (hbox); have hW_ := bel_ w hb (by repeat (first | (with_reducible first | exact HB.out | apply ba_ | apply bn_ | apply bd_ | refine below_setA ?_ (by assumption)) | exact HB.out)); have GE437 := As_ (gesz hg hW_); have NB386_437 := As_ (ne_lt hg BK386.out); have NB437_386 := As_ (ne_gt hg BK386.out); have NB399_437 := As_ (ne_lt hg BK399.out); have NB437_399 := As_ (ne_gt hg BK399.out); have NB405_437 := As_ (ne_lt hg BK405.out); have NB437_405 := As_ (ne_gt hg BK405.out); have NB412_437 := As_ (ne_lt hg BK412.out); have NB437_412 := As_ (ne_gt hg BK412.out); replace HO_400002 := As_ (Kd.R_below (by (with_reducible repeat (first | apply Kd.R_alloc | apply Kd.R_drewN | apply Kd.R_drew)); exact HO_400002.out) hb); replace HO_406002 := As_ (Kd.R_below (by (with_reducible repeat (first | apply Kd.R_alloc | apply Kd.R_drewN | apply Kd.R_drew)); exact HO_406002.out) hb); replace HO_413002 := As_ (Kd.R_below (by (with_reducible repeat (first | apply Kd.R_alloc | apply Kd.R_drewN | apply Kd.R_drew)); exact HO_413002.out) hb); replace HO430 := As_ (Kd.R_below (by (with_reducible repeat (first | apply Kd.R_alloc | apply Kd.R_drewN | apply Kd.R_drew)); exact HO430.out) hb); replace HO435 := As_ (Kd.R_below (by (with_reducible repeat (first | apply Kd.R_alloc | apply Kd.R_drewN | apply Kd.R_drew)); exact HO435.out) hb); replace BK386 := As_ (blk_b hb BK386.out); replace BK399 := As_ (blk_b hb BK399.out); replace BK405 := As_ (blk_b hb BK405.out); replace BK412 := As_ (blk_b hb BK412.out); replace HB := As_ (below_step hW_ hb); clear hW_ hb hbox hg; have hnb113 := NB437_386.out; have hnc113 := NB386_437.out; have hnb114 := NB437_399.out; have hnc114 := NB399_437.out; have hnb115 := NB437_405.out; have hnc115 := NB405_437.out; have hnb116 := NB437_412.out; have hnc116 := NB412_437.out; obtain ⟨hcz117_0, hcz117_1, hcz117_2⟩ := c3_ (w := w112) BK437.out; obtain ⟨hfz117_0, hfz117_1, hfz117_2⟩ := z3_ BK437.out; obtain ⟨Ao118, co118, eo118⟩ := Kd.R_slice HO435.out; subst eo118))
    (try simp only [Act.put, sib_, sc0_, sc1_])
    go_cut [97] (fun v97 wc => ∃ (kq : Nat) (x97_97 : Bool), v97 = .bool x97_97 ∧ Aside0 (laws_FnExactMakePuzzle.j2 kq t423 x97_97 t406 t407 t424 = some r) ∧ Aside0 (kq ≤ kj61) ∧ Aside0 (Kd.R k42 42 wc w.heap.size (fun k_ => some k_ ≠ ((.slice Ao38 t408.length co38) : Value).ownBlock ∧ some k_ ≠ ((.slice Ao118 t433.length co118) : Value).ownBlock) (.slice Ao24 t395.length co24) t395) ∧ Aside0 (Kd.R k87 87 wc w.heap.size (fun _ => True) (.slice Ao31 t421.length co31) t421) ∧ Aside0 (Kd.R k42 42 wc w.heap.size (fun k_ => some k_ ≠ ((.slice Ao24 t395.length co24) : Value).ownBlock ∧ some k_ ≠ ((.slice Ao118 t433.length co118) : Value).ownBlock) (.slice Ao38 t408.length co38) t424) ∧ Aside0 (Kd.R k42 42 wc w.heap.size (fun k_ => some k_ ≠ ((.slice Ao24 t395.length co24) : Value).ownBlock ∧ some k_ ≠ ((.slice Ao38 t408.length co38) : Value).ownBlock) (.slice Ao118 t433.length co118) t433) ∧ Aside0 (wc.heap[gb386]? = some (.cells #[.int .i64 a0_0, .int .i64 a0_1, (.slice A0_2 l0_2.length c0_2)] 24 (0, 0))) ∧ Aside0 (wc.heap[gb399]? = some (.cells #[.int .i64 t393, .int .i64 t394, (.slice Ao24 t395.length co24)] 47 (0, 0))) ∧ Aside0 (wc.heap[gb405]? = some (.cells #[.int .i64 t400, .int .i64 t401, (.slice Ao31 t421.length co31)] 31 (0, 0))) ∧ Aside0 (wc.heap[gb412]? = some (.cells #[.int .i64 t406, .int .i64 t407, (.slice Ao38 t408.length co38)] 47 (0, 0))) ∧ Aside0 (wc.heap[gb437]? = some (.cells #[.int .i64 t431, .int .i64 t432, (.slice Ao118 t433.length co118)] 47 (0, 0))) ∧ Aside0 (Below w.heap.size w wc))
    case first =>
     have H := HC98.out
     clear HC98
     replace H := Option.bind_eq_some_iff.mp H
     obtain ⟨t438, A1190, H⟩ := H
     try dsimp only at H
     have A119 := As_ A1190
     clear A1190
     by_cases c120 : t438 = true
     ·
      subst c120
      have H1 : (laws_FnExactMakePuzzle.j2 kj61 t423 (t436 != t398) t406 t407 t424) = some r := by rw [if_pos rfl] at H; exact H
      clear H
      have H := H1
      clear H1
      have H' := As_ H
      clear H
      have hnb121 := NB437_386.out
      have hnc121 := NB386_437.out
      have hnb122 := NB437_399.out
      have hnc122 := NB399_437.out
      have hnb123 := NB437_405.out
      have hnc123 := NB405_437.out
      have hnb124 := NB437_412.out
      have hnc124 := NB412_437.out
      obtain ⟨hcz125_0, hcz125_1, hcz125_2⟩ := c3_ (w := w112) BK437.out
      obtain ⟨hfz125_0, hfz125_1, hfz125_2⟩ := z3_ BK437.out
      have hnb126 := NB399_386.out
      have hnc126 := NB386_399.out
      have hnb127 := NB399_405.out
      have hnc127 := NB405_399.out
      have hnb128 := NB399_412.out
      have hnc128 := NB412_399.out
      obtain ⟨hcz129_0, hcz129_1, hcz129_2⟩ := c3_ (w := w112) BK399.out
      obtain ⟨hfz129_0, hfz129_1, hfz129_2⟩ := z3_ BK399.out
      go_wp2_with (first | ((with_reducible refine gate_callee (f := 21) rfl ?_); refine goesL_ (some 91) rfl rfl Try.func21 (by kernel_rfl) rfl #[.agg #[.int .i64 t431, .int .i64 t432, .slice Ao118 t433.length co118], .agg #[.int .i64 t393, .int .i64 t394, .slice Ao24 t395.length co24]] rfl (by (try simp only [List.map_toArray, List.map_cons, List.map_nil]); first | done | rfl | (simp only [List.length_drop, List.length_take]; rfl)) ?_; (with_reducible refine (laws_eqPuzzle.calls kj61 t431 t432 _ _ t433 t393 t394 _ _ t395 true _ ?side1 ?side2 ?side3 ?side4 A119.out).mono ?_); (case side1 => refine (Kd.R_reads' (e := 42) (base := w.heap.size) (ok := fun k_ => ((True ∧ some k_ ≠ (.slice Ao24 t395.length co24 : Value).ownBlock) ∧ some k_ ≠ (.slice Ao38 t408.length co38 : Value).ownBlock)) (n := t433.length) (c := co118) ?_).2.2; exact (by (with_reducible repeat (first | apply Kd.R_alloc | apply Kd.R_drewN | apply Kd.R_drew)); exact (Kd.R_mono (Kd.R_far (p := ⟨gb437, 2, none⟩) (Kd.R_far (p := ⟨gb437, 1, none⟩) (Kd.R_far (p := ⟨gb437, 0, none⟩) (Kd.R_types HO435.out BK437.out (by decide)) (fun _ hk => hk.2) (.int .i64 t431)) (fun _ hk => hk.2) (.int .i64 t432)) (fun _ hk => hk.2) (.slice Ao118 t433.length co118)) (fun _ h_ => h_.1)))); (case side2 => exact (Kd.R_reads' HO435.out).2.1); (case side3 => refine (Kd.R_reads' (e := 42) (base := w.heap.size) (ok := fun k_ => (some k_ ≠ (.slice Ao38 t408.length co38 : Value).ownBlock ∧ some k_ ≠ (.slice Ao118 t433.length co118 : Value).ownBlock)) (n := t395.length) (c := co24) ?_).2.2; exact (by (with_reducible repeat (first | apply Kd.R_alloc | apply Kd.R_drewN | apply Kd.R_drew)); exact (Kd.R_mono (Kd.R_far (p := ⟨gb437, 2, none⟩) (Kd.R_far (p := ⟨gb437, 1, none⟩) (Kd.R_far (p := ⟨gb437, 0, none⟩) (Kd.R_types HO_400002.out BK437.out (by decide)) (fun _ hk => hk.2) (.int .i64 t431)) (fun _ hk => hk.2) (.int .i64 t432)) (fun _ hk => hk.2) (.slice Ao118 t433.length co118)) (fun _ h_ => h_.1)))); (case side4 => exact (Kd.R_reads' HO_400002.out).2.1); rintro e w130 ⟨rfl, hb⟩; refine ⟨_, rfl, ?_⟩; replace HO_400002 := As_ (Kd.R_below (by (with_reducible repeat (first | apply Kd.R_alloc | apply Kd.R_drewN | apply Kd.R_drew)); exact (Kd.R_mono (Kd.R_far (p := ⟨gb437, 2, none⟩) (Kd.R_far (p := ⟨gb437, 1, none⟩) (Kd.R_far (p := ⟨gb437, 0, none⟩) (Kd.R_types HO_400002.out BK437.out (by decide)) (fun _ hk => hk.2) (.int .i64 t431)) (fun _ hk => hk.2) (.int .i64 t432)) (fun _ hk => hk.2) (.slice Ao118 t433.length co118)) (fun _ h_ => h_.1))) hb); replace HO_406002 := As_ (Kd.R_below (by (with_reducible repeat (first | apply Kd.R_alloc | apply Kd.R_drewN | apply Kd.R_drew)); exact (Kd.R_mono (Kd.R_far (p := ⟨gb437, 2, none⟩) (Kd.R_far (p := ⟨gb437, 1, none⟩) (Kd.R_far (p := ⟨gb437, 0, none⟩) (Kd.R_types HO_406002.out BK437.out (by decide)) (fun _ hk => hk.2) (.int .i64 t431)) (fun _ hk => hk.2) (.int .i64 t432)) (fun _ hk => hk.2) (.slice Ao118 t433.length co118)) (fun _ h_ => h_.1))) hb); replace HO_413002 := As_ (Kd.R_below (by (with_reducible repeat (first | apply Kd.R_alloc | apply Kd.R_drewN | apply Kd.R_drew)); exact (Kd.R_mono (Kd.R_far (p := ⟨gb437, 2, none⟩) (Kd.R_far (p := ⟨gb437, 1, none⟩) (Kd.R_far (p := ⟨gb437, 0, none⟩) (Kd.R_types HO_413002.out BK437.out (by decide)) (fun _ hk => hk.2) (.int .i64 t431)) (fun _ hk => hk.2) (.int .i64 t432)) (fun _ hk => hk.2) (.slice Ao118 t433.length co118)) (fun _ h_ => h_.1))) hb); replace HO430 := As_ (Kd.R_below (by (with_reducible repeat (first | apply Kd.R_alloc | apply Kd.R_drewN | apply Kd.R_drew)); exact (Kd.R_mono (Kd.R_far (p := ⟨gb437, 2, none⟩) (Kd.R_far (p := ⟨gb437, 1, none⟩) (Kd.R_far (p := ⟨gb437, 0, none⟩) (Kd.R_types HO430.out BK437.out (by decide)) (fun _ hk => hk.2) (.int .i64 t431)) (fun _ hk => hk.2) (.int .i64 t432)) (fun _ hk => hk.2) (.slice Ao118 t433.length co118)) (fun _ h_ => h_.1))) hb); replace HO435 := As_ (Kd.R_below (by (with_reducible repeat (first | apply Kd.R_alloc | apply Kd.R_drewN | apply Kd.R_drew)); exact (Kd.R_mono (Kd.R_far (p := ⟨gb437, 2, none⟩) (Kd.R_far (p := ⟨gb437, 1, none⟩) (Kd.R_far (p := ⟨gb437, 0, none⟩) (Kd.R_types HO435.out BK437.out (by decide)) (fun _ hk => hk.2) (.int .i64 t431)) (fun _ hk => hk.2) (.int .i64 t432)) (fun _ hk => hk.2) (.slice Ao118 t433.length co118)) (fun _ h_ => h_.1))) hb); replace BK386 := As_ (blk_below (g := gb386) (o := .cells #[.int .i64 a0_0, .int .i64 a0_1, .slice A0_2 l0_2.length c0_2] 24 (0, 0)) (by (with_reducible repeat (first | refine kn_ ?_ _ | refine kd_ ?_ | refine ka_ ?_ _)); refine blk_far ?_ NB386_437.out _; refine blk_far ?_ NB386_437.out _; refine blk_far ?_ NB386_437.out _; (with_reducible repeat (first | refine kn_ ?_ _ | refine kd_ ?_ | refine ka_ ?_ _)); exact BK386.out) hb); replace BK399 := As_ (blk_below (g := gb399) (o := .cells #[.int .i64 t393, .int .i64 t394, .slice Ao24 t395.length co24] 47 (0, 0)) (by (with_reducible repeat (first | refine kn_ ?_ _ | refine kd_ ?_ | refine ka_ ?_ _)); refine blk_far ?_ NB399_437.out _; refine blk_far ?_ NB399_437.out _; refine blk_far ?_ NB399_437.out _; (with_reducible repeat (first | refine kn_ ?_ _ | refine kd_ ?_ | refine ka_ ?_ _)); exact BK399.out) hb); replace BK405 := As_ (blk_below (g := gb405) (o := .cells #[.int .i64 t400, .int .i64 t401, .slice Ao31 t421.length co31] 31 (0, 0)) (by (with_reducible repeat (first | refine kn_ ?_ _ | refine kd_ ?_ | refine ka_ ?_ _)); refine blk_far ?_ NB405_437.out _; refine blk_far ?_ NB405_437.out _; refine blk_far ?_ NB405_437.out _; (with_reducible repeat (first | refine kn_ ?_ _ | refine kd_ ?_ | refine ka_ ?_ _)); exact BK405.out) hb); replace BK412 := As_ (blk_below (g := gb412) (o := .cells #[.int .i64 t406, .int .i64 t407, .slice Ao38 t408.length co38] 47 (0, 0)) (by (with_reducible repeat (first | refine kn_ ?_ _ | refine kd_ ?_ | refine ka_ ?_ _)); refine blk_far ?_ NB412_437.out _; refine blk_far ?_ NB412_437.out _; refine blk_far ?_ NB412_437.out _; (with_reducible repeat (first | refine kn_ ?_ _ | refine kd_ ?_ | refine ka_ ?_ _)); exact BK412.out) hb); replace BK437 := As_ (blk_below (g := gb437) (o := .cells #[.int .i64 t431, .int .i64 t432, .slice Ao118 t433.length co118] 47 (0, 0)) (by (with_reducible repeat (first | refine kn_ ?_ _ | refine kd_ ?_ | refine ka_ ?_ _)); refine blk_put (cs := #[.int .i64 t431, .int .i64 t432, .slice none 0 0]) ?_ 2 _ rfl; refine blk_put (cs := #[.int .i64 t431, .int .i64 0, .slice none 0 0]) ?_ 1 _ rfl; refine blk_put (cs := #[.int .i64 0, .int .i64 0, .slice none 0 0]) ?_ 0 _ rfl; (with_reducible repeat (first | refine kn_ ?_ _ | refine kd_ ?_ | refine ka_ ?_ _)); exact BK437.out) hb); replace HB := As_ (below_step (by repeat (first | (with_reducible first | exact HB.out | apply ba_ | apply bn_ | apply bd_ | refine below_setA ?_ (by assumption)) | exact HB.out)) hb); (try clear hb)))
      go_meet
      case rel => exact ⟨_, ((t436 != t398)), (by first | rfl | (simp; done) | (simp [*]; done)), H', ⟨by have := HJ12.out; have := HJ61.out; first | omega | exact Nat.le_refl _⟩, ⟨by (try simp only [hl406002_61]); (with_reducible repeat (first | apply Kd.R_alloc | apply Kd.R_drewN | apply Kd.R_drew)); exact HO_400002.out⟩, ⟨by (try simp only [hl406002_61]); (with_reducible repeat (first | apply Kd.R_alloc | apply Kd.R_drewN | apply Kd.R_drew)); exact Kd.R_mono HO_406002.out (fun _ hk => trivial)⟩, ⟨by (try simp only [hl406002_61]); (with_reducible repeat (first | apply Kd.R_alloc | apply Kd.R_drewN | apply Kd.R_drew)); exact HO_413002.out⟩, ⟨by (try simp only [hl406002_61]); (with_reducible repeat (first | apply Kd.R_alloc | apply Kd.R_drewN | apply Kd.R_drew)); exact Kd.R_mono HO435.out (fun _ hk => ⟨hk.1.2, hk.2⟩)⟩, ⟨by (try simp only [hl406002_61]); (with_reducible repeat (first | refine kn_ ?_ _ | refine kd_ ?_ | refine ka_ ?_ _)); exact BK386.out⟩, ⟨by (try simp only [hl406002_61]); (with_reducible repeat (first | refine kn_ ?_ _ | refine kd_ ?_ | refine ka_ ?_ _)); exact BK399.out⟩, ⟨by (try simp only [hl406002_61]); (with_reducible repeat (first | refine kn_ ?_ _ | refine kd_ ?_ | refine ka_ ?_ _)); exact BK405.out⟩, ⟨by (try simp only [hl406002_61]); (with_reducible repeat (first | refine kn_ ?_ _ | refine kd_ ?_ | refine ka_ ?_ _)); exact BK412.out⟩, ⟨by (try simp only [hl406002_61]); (with_reducible repeat (first | refine kn_ ?_ _ | refine kd_ ?_ | refine ka_ ?_ _)); exact BK437.out⟩, ⟨by repeat (first | (with_reducible first | exact HB.out | apply ba_ | apply bn_ | apply bd_ | refine below_setA ?_ (by assumption)) | exact HB.out)⟩⟩
     ·
      replace c120 := Bool.eq_false_iff.mpr c120
      subst c120
      have H1 : (laws_FnExactMakePuzzle.j2 kj61 t423 true t406 t407 t424) = some r := by rw [if_neg (show ¬ (false = true) by decide)] at H; exact H
      clear H
      have H := H1
      clear H1
      have H' := As_ H
      clear H
      have hnb131 := NB437_386.out
      have hnc131 := NB386_437.out
      have hnb132 := NB437_399.out
      have hnc132 := NB399_437.out
      have hnb133 := NB437_405.out
      have hnc133 := NB405_437.out
      have hnb134 := NB437_412.out
      have hnc134 := NB412_437.out
      obtain ⟨hcz135_0, hcz135_1, hcz135_2⟩ := c3_ (w := w112) BK437.out
      obtain ⟨hfz135_0, hfz135_1, hfz135_2⟩ := z3_ BK437.out
      have hnb136 := NB399_386.out
      have hnc136 := NB386_399.out
      have hnb137 := NB399_405.out
      have hnc137 := NB405_399.out
      have hnb138 := NB399_412.out
      have hnc138 := NB412_399.out
      obtain ⟨hcz139_0, hcz139_1, hcz139_2⟩ := c3_ (w := w112) BK399.out
      obtain ⟨hfz139_0, hfz139_1, hfz139_2⟩ := z3_ BK399.out
      go_wp2_with (first | ((with_reducible refine gate_callee (f := 21) rfl ?_); refine goesL_ (some 91) rfl rfl Try.func21 (by kernel_rfl) rfl #[.agg #[.int .i64 t431, .int .i64 t432, .slice Ao118 t433.length co118], .agg #[.int .i64 t393, .int .i64 t394, .slice Ao24 t395.length co24]] rfl (by (try simp only [List.map_toArray, List.map_cons, List.map_nil]); first | done | rfl | (simp only [List.length_drop, List.length_take]; rfl)) ?_; (with_reducible refine (laws_eqPuzzle.calls kj61 t431 t432 _ _ t433 t393 t394 _ _ t395 false _ ?side1 ?side2 ?side3 ?side4 A119.out).mono ?_); (case side1 => refine (Kd.R_reads' (e := 42) (base := w.heap.size) (ok := fun k_ => ((True ∧ some k_ ≠ (.slice Ao24 t395.length co24 : Value).ownBlock) ∧ some k_ ≠ (.slice Ao38 t408.length co38 : Value).ownBlock)) (n := t433.length) (c := co118) ?_).2.2; exact (by (with_reducible repeat (first | apply Kd.R_alloc | apply Kd.R_drewN | apply Kd.R_drew)); exact (Kd.R_mono (Kd.R_far (p := ⟨gb437, 2, none⟩) (Kd.R_far (p := ⟨gb437, 1, none⟩) (Kd.R_far (p := ⟨gb437, 0, none⟩) (Kd.R_types HO435.out BK437.out (by decide)) (fun _ hk => hk.2) (.int .i64 t431)) (fun _ hk => hk.2) (.int .i64 t432)) (fun _ hk => hk.2) (.slice Ao118 t433.length co118)) (fun _ h_ => h_.1)))); (case side2 => exact (Kd.R_reads' HO435.out).2.1); (case side3 => refine (Kd.R_reads' (e := 42) (base := w.heap.size) (ok := fun k_ => (some k_ ≠ (.slice Ao38 t408.length co38 : Value).ownBlock ∧ some k_ ≠ (.slice Ao118 t433.length co118 : Value).ownBlock)) (n := t395.length) (c := co24) ?_).2.2; exact (by (with_reducible repeat (first | apply Kd.R_alloc | apply Kd.R_drewN | apply Kd.R_drew)); exact (Kd.R_mono (Kd.R_far (p := ⟨gb437, 2, none⟩) (Kd.R_far (p := ⟨gb437, 1, none⟩) (Kd.R_far (p := ⟨gb437, 0, none⟩) (Kd.R_types HO_400002.out BK437.out (by decide)) (fun _ hk => hk.2) (.int .i64 t431)) (fun _ hk => hk.2) (.int .i64 t432)) (fun _ hk => hk.2) (.slice Ao118 t433.length co118)) (fun _ h_ => h_.1)))); (case side4 => exact (Kd.R_reads' HO_400002.out).2.1); rintro e w140 ⟨rfl, hb⟩; refine ⟨_, rfl, ?_⟩; replace HO_400002 := As_ (Kd.R_below (by (with_reducible repeat (first | apply Kd.R_alloc | apply Kd.R_drewN | apply Kd.R_drew)); exact (Kd.R_mono (Kd.R_far (p := ⟨gb437, 2, none⟩) (Kd.R_far (p := ⟨gb437, 1, none⟩) (Kd.R_far (p := ⟨gb437, 0, none⟩) (Kd.R_types HO_400002.out BK437.out (by decide)) (fun _ hk => hk.2) (.int .i64 t431)) (fun _ hk => hk.2) (.int .i64 t432)) (fun _ hk => hk.2) (.slice Ao118 t433.length co118)) (fun _ h_ => h_.1))) hb); replace HO_406002 := As_ (Kd.R_below (by (with_reducible repeat (first | apply Kd.R_alloc | apply Kd.R_drewN | apply Kd.R_drew)); exact (Kd.R_mono (Kd.R_far (p := ⟨gb437, 2, none⟩) (Kd.R_far (p := ⟨gb437, 1, none⟩) (Kd.R_far (p := ⟨gb437, 0, none⟩) (Kd.R_types HO_406002.out BK437.out (by decide)) (fun _ hk => hk.2) (.int .i64 t431)) (fun _ hk => hk.2) (.int .i64 t432)) (fun _ hk => hk.2) (.slice Ao118 t433.length co118)) (fun _ h_ => h_.1))) hb); replace HO_413002 := As_ (Kd.R_below (by (with_reducible repeat (first | apply Kd.R_alloc | apply Kd.R_drewN | apply Kd.R_drew)); exact (Kd.R_mono (Kd.R_far (p := ⟨gb437, 2, none⟩) (Kd.R_far (p := ⟨gb437, 1, none⟩) (Kd.R_far (p := ⟨gb437, 0, none⟩) (Kd.R_types HO_413002.out BK437.out (by decide)) (fun _ hk => hk.2) (.int .i64 t431)) (fun _ hk => hk.2) (.int .i64 t432)) (fun _ hk => hk.2) (.slice Ao118 t433.length co118)) (fun _ h_ => h_.1))) hb); replace HO430 := As_ (Kd.R_below (by (with_reducible repeat (first | apply Kd.R_alloc | apply Kd.R_drewN | apply Kd.R_drew)); exact (Kd.R_mono (Kd.R_far (p := ⟨gb437, 2, none⟩) (Kd.R_far (p := ⟨gb437, 1, none⟩) (Kd.R_far (p := ⟨gb437, 0, none⟩) (Kd.R_types HO430.out BK437.out (by decide)) (fun _ hk => hk.2) (.int .i64 t431)) (fun _ hk => hk.2) (.int .i64 t432)) (fun _ hk => hk.2) (.slice Ao118 t433.length co118)) (fun _ h_ => h_.1))) hb); replace HO435 := As_ (Kd.R_below (by (with_reducible repeat (first | apply Kd.R_alloc | apply Kd.R_drewN | apply Kd.R_drew)); exact (Kd.R_mono (Kd.R_far (p := ⟨gb437, 2, none⟩) (Kd.R_far (p := ⟨gb437, 1, none⟩) (Kd.R_far (p := ⟨gb437, 0, none⟩) (Kd.R_types HO435.out BK437.out (by decide)) (fun _ hk => hk.2) (.int .i64 t431)) (fun _ hk => hk.2) (.int .i64 t432)) (fun _ hk => hk.2) (.slice Ao118 t433.length co118)) (fun _ h_ => h_.1))) hb); replace BK386 := As_ (blk_below (g := gb386) (o := .cells #[.int .i64 a0_0, .int .i64 a0_1, .slice A0_2 l0_2.length c0_2] 24 (0, 0)) (by (with_reducible repeat (first | refine kn_ ?_ _ | refine kd_ ?_ | refine ka_ ?_ _)); refine blk_far ?_ NB386_437.out _; refine blk_far ?_ NB386_437.out _; refine blk_far ?_ NB386_437.out _; (with_reducible repeat (first | refine kn_ ?_ _ | refine kd_ ?_ | refine ka_ ?_ _)); exact BK386.out) hb); replace BK399 := As_ (blk_below (g := gb399) (o := .cells #[.int .i64 t393, .int .i64 t394, .slice Ao24 t395.length co24] 47 (0, 0)) (by (with_reducible repeat (first | refine kn_ ?_ _ | refine kd_ ?_ | refine ka_ ?_ _)); refine blk_far ?_ NB399_437.out _; refine blk_far ?_ NB399_437.out _; refine blk_far ?_ NB399_437.out _; (with_reducible repeat (first | refine kn_ ?_ _ | refine kd_ ?_ | refine ka_ ?_ _)); exact BK399.out) hb); replace BK405 := As_ (blk_below (g := gb405) (o := .cells #[.int .i64 t400, .int .i64 t401, .slice Ao31 t421.length co31] 31 (0, 0)) (by (with_reducible repeat (first | refine kn_ ?_ _ | refine kd_ ?_ | refine ka_ ?_ _)); refine blk_far ?_ NB405_437.out _; refine blk_far ?_ NB405_437.out _; refine blk_far ?_ NB405_437.out _; (with_reducible repeat (first | refine kn_ ?_ _ | refine kd_ ?_ | refine ka_ ?_ _)); exact BK405.out) hb); replace BK412 := As_ (blk_below (g := gb412) (o := .cells #[.int .i64 t406, .int .i64 t407, .slice Ao38 t408.length co38] 47 (0, 0)) (by (with_reducible repeat (first | refine kn_ ?_ _ | refine kd_ ?_ | refine ka_ ?_ _)); refine blk_far ?_ NB412_437.out _; refine blk_far ?_ NB412_437.out _; refine blk_far ?_ NB412_437.out _; (with_reducible repeat (first | refine kn_ ?_ _ | refine kd_ ?_ | refine ka_ ?_ _)); exact BK412.out) hb); replace BK437 := As_ (blk_below (g := gb437) (o := .cells #[.int .i64 t431, .int .i64 t432, .slice Ao118 t433.length co118] 47 (0, 0)) (by (with_reducible repeat (first | refine kn_ ?_ _ | refine kd_ ?_ | refine ka_ ?_ _)); refine blk_put (cs := #[.int .i64 t431, .int .i64 t432, .slice none 0 0]) ?_ 2 _ rfl; refine blk_put (cs := #[.int .i64 t431, .int .i64 0, .slice none 0 0]) ?_ 1 _ rfl; refine blk_put (cs := #[.int .i64 0, .int .i64 0, .slice none 0 0]) ?_ 0 _ rfl; (with_reducible repeat (first | refine kn_ ?_ _ | refine kd_ ?_ | refine ka_ ?_ _)); exact BK437.out) hb); replace HB := As_ (below_step (by repeat (first | (with_reducible first | exact HB.out | apply ba_ | apply bn_ | apply bd_ | refine below_setA ?_ (by assumption)) | exact HB.out)) hb); (try clear hb)))
      go_meet
      case rel => exact ⟨_, (true), (by first | rfl | (simp; done) | (simp [*]; done)), H', ⟨by have := HJ12.out; have := HJ61.out; first | omega | exact Nat.le_refl _⟩, ⟨by (try simp only [hl406002_61]); (with_reducible repeat (first | apply Kd.R_alloc | apply Kd.R_drewN | apply Kd.R_drew)); exact HO_400002.out⟩, ⟨by (try simp only [hl406002_61]); (with_reducible repeat (first | apply Kd.R_alloc | apply Kd.R_drewN | apply Kd.R_drew)); exact Kd.R_mono HO_406002.out (fun _ hk => trivial)⟩, ⟨by (try simp only [hl406002_61]); (with_reducible repeat (first | apply Kd.R_alloc | apply Kd.R_drewN | apply Kd.R_drew)); exact HO_413002.out⟩, ⟨by (try simp only [hl406002_61]); (with_reducible repeat (first | apply Kd.R_alloc | apply Kd.R_drewN | apply Kd.R_drew)); exact Kd.R_mono HO435.out (fun _ hk => ⟨hk.1.2, hk.2⟩)⟩, ⟨by (try simp only [hl406002_61]); (with_reducible repeat (first | refine kn_ ?_ _ | refine kd_ ?_ | refine ka_ ?_ _)); exact BK386.out⟩, ⟨by (try simp only [hl406002_61]); (with_reducible repeat (first | refine kn_ ?_ _ | refine kd_ ?_ | refine ka_ ?_ _)); exact BK399.out⟩, ⟨by (try simp only [hl406002_61]); (with_reducible repeat (first | refine kn_ ?_ _ | refine kd_ ?_ | refine ka_ ?_ _)); exact BK405.out⟩, ⟨by (try simp only [hl406002_61]); (with_reducible repeat (first | refine kn_ ?_ _ | refine kd_ ?_ | refine ka_ ?_ _)); exact BK412.out⟩, ⟨by (try simp only [hl406002_61]); (with_reducible repeat (first | refine kn_ ?_ _ | refine kd_ ?_ | refine ka_ ?_ _)); exact BK437.out⟩, ⟨by repeat (first | (with_reducible first | exact HB.out | apply ba_ | apply bn_ | apply bd_ | refine below_setA ?_ (by assumption)) | exact HB.out)⟩⟩
    case rest =>
     clear HC98
     try clear c1; try clear c2; try clear p2; try clear c3; try clear c4; try clear c5; try clear c5b0; try clear c6; try clear c7; try clear c8; try clear c9; try clear c10; try clear c11; try clear c12; try clear c13; try clear c19; try clear c20; try clear c21; try clear c22; try clear c23; try clear c28; try clear c29; try clear c34; try clear c35; try clear c36; try clear c40; try clear c41; try clear c42; try clear c43; try clear c45; try clear c46; try clear c49; try clear c50; try clear c51; try clear c53; try clear c54; try clear c57; try clear c60; try clear c67; try clear c68; try clear c69; try clear c72; try clear c72b0; try clear c74; try clear c75; try clear c76; try clear c77; try clear c79; try clear c80; try clear c83; try clear c84; try clear c85; try clear c87; try clear c88; try clear c91; try clear c94; try clear c94b0; try clear c95; try clear c95b0; try clear c95b1; try clear c99; try clear c100; try clear c101; try clear c106; try clear c107; try clear c113; try clear c114; try clear c115; try clear c116; try clear c120; try clear c121; try clear c122; try clear c123; try clear c124; try clear c126; try clear c127; try clear c128; try clear c131; try clear c132; try clear c133; try clear c134; try clear c136; try clear c137; try clear c138; try clear hcz102_0 hcz102_1 hcz102_2; try clear hcz104_0 hcz104_1 hcz104_2; try clear hcz108_0 hcz108_1 hcz108_2; try clear hcz117_0 hcz117_1 hcz117_2; try clear hcz125_0 hcz125_1 hcz125_2; try clear hcz129_0 hcz129_1 hcz129_2; try clear hcz135_0 hcz135_1 hcz135_2; try clear hcz139_0 hcz139_1 hcz139_2; try clear hcz15_0 hcz15_1 hcz15_2; try clear hcz17_0 hcz17_1 hcz17_2; try clear hcz23_0 hcz23_1 hcz23_2; try clear hcz25_0 hcz25_1 hcz25_2; try clear hcz30_0 hcz30_1 hcz30_2; try clear hcz37_0 hcz37_1 hcz37_2; try clear hcz44_0 hcz44_1 hcz44_2; try clear hcz47_0 hcz47_1 hcz47_2; try clear hcz52_0 hcz52_1 hcz52_2; try clear hcz55_0 hcz55_1 hcz55_2; try clear hcz70_0 hcz70_1 hcz70_2; try clear hcz78_0 hcz78_1 hcz78_2; try clear hcz7_0 hcz7_1 hcz7_2; try clear hcz81_0 hcz81_1 hcz81_2; try clear hcz86_0 hcz86_1 hcz86_2; try clear hcz89_0 hcz89_1 hcz89_2; try clear hfz102_0 hfz102_1 hfz102_2; try clear hfz104_0 hfz104_1 hfz104_2; try clear hfz108_0 hfz108_1 hfz108_2; try clear hfz117_0 hfz117_1 hfz117_2; try clear hfz125_0 hfz125_1 hfz125_2; try clear hfz129_0 hfz129_1 hfz129_2; try clear hfz135_0 hfz135_1 hfz135_2; try clear hfz139_0 hfz139_1 hfz139_2; try clear hfz15_0 hfz15_1 hfz15_2; try clear hfz17_0 hfz17_1 hfz17_2; try clear hfz23_0 hfz23_1 hfz23_2; try clear hfz25_0 hfz25_1 hfz25_2; try clear hfz30_0 hfz30_1 hfz30_2; try clear hfz37_0 hfz37_1 hfz37_2; try clear hfz44_0 hfz44_1 hfz44_2; try clear hfz47_0 hfz47_1 hfz47_2; try clear hfz52_0 hfz52_1 hfz52_2; try clear hfz55_0 hfz55_1 hfz55_2; try clear hfz70_0 hfz70_1 hfz70_2; try clear hfz78_0 hfz78_1 hfz78_2; try clear hfz7_0 hfz7_1 hfz7_2; try clear hfz81_0 hfz81_1 hfz81_2; try clear hfz86_0 hfz86_1 hfz86_2; try clear hfz89_0 hfz89_1 hfz89_2; try clear p2
     obtain ⟨kq, x97_97, rfl, HA, HJ97, HO_400002, HO_406002, HO_413002, HO_438002, BK386, BK399, BK405, BK412, BK437, HB⟩ := hcut
     have hl413002_97 := (Kd.R_reads' HO_413002.out).1
     rw [hl413002_97] at HO_413002
     (try simp only [hl413002_97])
     (try simp only [hl413002_97] at BK386)
     (try simp only [hl413002_97] at BK399)
     (try simp only [hl413002_97] at BK405)
     (try simp only [hl413002_97] at BK412)
     (try simp only [hl413002_97] at BK437)
     (try simp only [hl413002_97] at HO_400002)
     (try simp only [hl413002_97] at HO_406002)
     (try simp only [hl413002_97] at HO_438002)
     rcases kq with _ | kj97
     · exact absurd HA.out (by simp [laws_FnExactMakePuzzle.j2])
     have H := HA.out
     clear HA
     simp only [laws_FnExactMakePuzzle.j2] at H
     by_cases c141 : x97_97 = true
     ·
      subst c141
      have H1 : (none) = some r := by rw [if_pos rfl] at H; exact H
      clear H
      have H := H1
      clear H1
      exact absurd H (by simp)
     replace c141 := Bool.eq_false_iff.mpr c141
     subst c141
     have H1 : ((laws_heldPuzzle.f kj97 t406 t407 t424 1).bind fun t439 => (if t439 < 0 then (none) else (if t439 = t423 then (some true) else (none)))) = some r := by rw [if_neg (show ¬ (false = true) by decide)] at H; exact H
     clear H
     have H := H1
     clear H1
     replace H := Option.bind_eq_some_iff.mp H
     obtain ⟨t439, A1420, H⟩ := H
     try dsimp only at H
     have A142 := As_ A1420
     clear A1420
     by_cases c143 : t439 < 0
     · rw [if_pos c143] at H; exact absurd H (by simp)
     rw [if_neg c143] at H
     have c143b0 : decide (t439 < 0) = false := decide_eq_false c143
     clear c143
     by_cases c144 : t439 = t423
     case neg => rw [if_neg c144] at H; exact absurd H (by simp)
     rw [if_pos c144] at H
     have c144b0 : (t439 == t423) = true := beq_iff_eq.mpr c144
     have c144b1 : (t439 != t423) = false := bne_eq_false_iff_eq.mpr c144
     clear c144
     obtain rfl := Option.some.inj H
     have hnb145 := NB412_386.out
     have hnc145 := NB386_412.out
     have hnb146 := NB412_399.out
     have hnc146 := NB399_412.out
     have hnb147 := NB412_405.out
     have hnc147 := NB405_412.out
     have hnb148 := NB412_437.out
     have hnc148 := NB437_412.out
     obtain ⟨hcz149_0, hcz149_1, hcz149_2⟩ := c3_ (w := wc) BK412.out
     obtain ⟨hfz149_0, hfz149_1, hfz149_2⟩ := z3_ BK412.out
     go_wp2_with (first | ((with_reducible refine gate_callee (f := 23) rfl ?_); refine goesL_ (some 100) rfl rfl Try.func23 (by kernel_rfl) rfl #[.agg #[.int .i64 t406, .int .i64 t407, .slice Ao38 t424.length co38], .int .i64 1] rfl (by (try simp only [List.map_toArray, List.map_cons, List.map_nil]); first | done | rfl | (simp only [List.length_drop, List.length_take]; rfl)) ?_; (with_reducible refine (laws_heldPuzzle.calls kj97 t406 t407 _ _ t424 1 t439 _ ?side1 ?side2 A142.out).mono ?_); (case side1 => repeat (first | exact (Kd.R_reads' HO_413002.out).2.2 | (with_reducible refine Kd.C_alloc ?_ _) | (with_reducible refine Kd.C_drewN ?_ _) | (with_reducible refine Kd.C_drew ?_))); (case side2 => exact (Kd.R_reads' HO_413002.out).2.1); rintro e w150 ⟨rfl, hb⟩; refine ⟨_, rfl, ?_⟩; replace HO_400002 := As_ (Kd.R_below (by (with_reducible repeat (first | apply Kd.R_alloc | apply Kd.R_drewN | apply Kd.R_drew)); exact HO_400002.out) hb); replace HO_406002 := As_ (Kd.R_below (by (with_reducible repeat (first | apply Kd.R_alloc | apply Kd.R_drewN | apply Kd.R_drew)); exact HO_406002.out) hb); replace HO_413002 := As_ (Kd.R_below (by (with_reducible repeat (first | apply Kd.R_alloc | apply Kd.R_drewN | apply Kd.R_drew)); exact HO_413002.out) hb); replace HO_438002 := As_ (Kd.R_below (by (with_reducible repeat (first | apply Kd.R_alloc | apply Kd.R_drewN | apply Kd.R_drew)); exact HO_438002.out) hb); replace BK386 := As_ (blk_b hb BK386.out); replace BK399 := As_ (blk_b hb BK399.out); replace BK405 := As_ (blk_b hb BK405.out); replace BK412 := As_ (blk_b hb BK412.out); replace BK437 := As_ (blk_b hb BK437.out); replace HB := As_ (below_step (by repeat (first | (with_reducible first | exact HB.out | apply ba_ | apply bn_ | apply bd_ | refine below_setA ?_ (by assumption)) | exact HB.out)) hb); (try clear hb)))
     go_ret
     exact ⟨by first | rfl | (simp <;> rfl) | (simp [*] <;> rfl), by repeat (first | (with_reducible first | exact HB.out | apply ba_ | apply bn_ | apply bd_ | refine below_setA ?_ (by assumption)) | exact HB.out)⟩
end Go.Proofs.Ytipiaiolhhnnhaa.PFnExactMakePuzzle
