-- Written by a program of this session (wip/tools/pg.py) out of the translation.
import Derived.Test.YtipiaiolhhnnhaaPFnExactMakePuzzlex0
import Derived.Test.YtipiaiolhhnnhaaPFnExactMakePuzzlex14
import Derived.Test.YtipiaiolhhnnhaaPFnExactMakePuzzlex15
import Derived.Test.YtipiaiolhhnnhaaPFnExactMakePuzzlex16
import Derived.Test.YtipiaiolhhnnhaaPFnExactMakePuzzlex20
import Derived.Test.YtipiaiolhhnnhaaPFnExactMakePuzzlex22
import Derived.Test.YtipiaiolhhnnhaaPFnExactMakePuzzlex23
namespace Go.Proofs.Ytipiaiolhhnnhaa.PFnExactMakePuzzle
open Go.RowKit Go.Proofs.YtipiaiolhhnnhaaW.PrintWords Go.Proofs.YtipiaiolhhnnhaaW.PrintLast Go.Proofs.YtipiaiolhhnnhaaW.PrintMore Go.Proofs.YtipiaiolhhnnhaaH
attribute [local go_sem] max2_int min2_int max_two min_two max_three min_three max_four min_four   -- for this text's walks alone
set_option linter.unusedVariables false
set_option linter.unusedSimpArgs false

/-! ### impl_MakePuzzle: function 20 (by hand) -/
/- x 39 46 47 48 49 76 -/
def mkNext (s : Int) : Int := (s * 167 + 2411) % 10007
theorem mkNext_in (s : Int) : 0 ≤ mkNext s ∧ mkNext s ≤ 10006 := by unfold mkNext; omega
set_option maxHeartbeats 8000000 in
set_option maxRecDepth 100000 in
theorem mk_cl (s z : Int) (h0 : 0 ≤ s) (h1 : s ≤ 10006) (hz : mkNext s = z) (g : Nat) (W : World) (hg : W.heap[g]? = some (.cells #[.int .i64 s] 3 (0, 0))) :
  Calls Try.prog 47 #[.pointer (some ⟨g, 0, none⟩)] W fun e w' => e = .returned (.int .i64 z) ∧ w' = W.setCell ⟨g, 0, none⟩ (.int .i64 z) := by
 subst hz
 have hc : W.cell? ⟨g, 0, none⟩ = some (.int .i64 s) := (blk_cell hg 0).trans rfl
 have hf := blk_frozen hg 0
 clear hg
 go_enter Try.func47, Try.ntmps47
 go_wp2
 go_ret
 exact ⟨rfl, rfl⟩
/-- What a clue of a kind is asked about, by the next number. -/
def mkArg (w h kind z : Int) : Int := if kind = 1 then z % 3 + 1 else if kind = 2 then z % (w * h) else z % 4
/-- One clue more: the clue, and the last number. -/
def mkRound (k : Nat) (w h : Int) (l : List S87) (s : Int) : Option (S42 × Int) :=
 if 1 ≤ mkNext s % 6 ∧ mkNext s % 6 ≤ 3 then (impl_told.f k (mkNext s % 6) (mkArg w h (mkNext s % 6) (mkNext (mkNext s))) w h l).bind fun v => some (⟨mkNext s % 6, mkArg w h (mkNext s % 6) (mkNext (mkNext s)), v⟩, mkNext (mkNext s))
 else (impl_told.f k (mkNext s % 6) 0 w h l).bind fun v => some (⟨mkNext s % 6, v, 0⟩, mkNext s)
def mkLoop (k : Nat) (w h : Int) (l : List S87) : Nat → Int → List S42 → Option (List S42)
 | 0, _, acc => some acc
 | n + 1, s, acc => (mkRound k w h l s).bind fun x => mkLoop k w h l n x.2 (acc ++ [x.1])
def impl_MakePuzzle.f (k : Nat) (a0_0 : Int) (a0_1 : Int) (l0_2 : List S87) (a1 a2 : Int) : Option (Int × Int × List S42 × Bool) :=
 (impl_isHiddenCut.f a0_0 a0_1 l0_2).bind fun t => if t = true then
  if (0 ≤ a1 ∧ a1 ≤ 6) ∧ 0 ≤ a2 ∧ a2 ≤ 9999 then
   if (1 ≤ a0_0 ∧ a0_0 ≤ 6) ∧ 1 ≤ a0_1 ∧ a0_1 ≤ 6 then (mkLoop k a0_0 a0_1 l0_2 a1.toNat a2 []).bind fun r => some (a0_0, a0_1, r, true) else none
  else some (0, 0, [], false)
 else some (0, 0, [], false)
theorem mkRound.mono (w h : Int) (l : List S87) (s : Int) (k : Nat) : LeO (mkRound k w h l s) (mkRound (k + 1) w h l s) := by
 unfold mkRound
 exact LeO.ite (LeO.bind (impl_told.mono _ _ _ _ _ _) (fun _ => LeO.refl _)) (LeO.bind (impl_told.mono _ _ _ _ _ _) (fun _ => LeO.refl _))
theorem mkLoop.mono (w h : Int) (l : List S87) (k : Nat) : ∀ n s acc, LeO (mkLoop k w h l n s acc) (mkLoop (k + 1) w h l n s acc)
 | 0, _, _ => LeO.refl _
 | n + 1, s, acc => LeO.bind (mkRound.mono _ _ _ _ _) (fun x => mkLoop.mono w h l k n x.2 (acc ++ [x.1]))
theorem impl_MakePuzzle.mono : ∀ a0 a1 a2 a3 a4 k, LeO (impl_MakePuzzle.f k a0 a1 a2 a3 a4) (impl_MakePuzzle.f (k + 1) a0 a1 a2 a3 a4) := by
 intro a0 a1 a2 a3 a4 k
 unfold impl_MakePuzzle.f
 exact LeO.bind (LeO.refl _) (fun _ => LeO.ite (LeO.ite (LeO.ite (LeO.bind (mkLoop.mono _ _ _ _ _ _ _) (fun _ => LeO.refl _)) (LeO.refl _)) (LeO.refl _)) (LeO.refl _))
theorem alloc3_a (w : World) (A B C : Obj) : (((w.alloc A).alloc B).alloc C).heap[w.heap.size]? = some A := by
 show (((w.heap.push A).push B).push C)[w.heap.size]? = some A
 rw [Array.getElem?_push, if_neg (by simp; omega), Array.getElem?_push, if_neg (by simp), Array.getElem?_push, if_pos rfl]
theorem hasTwo_still (a : Int) (w : World) : Calls Try.prog 48 #[.int .i64 a] w fun e w' => e = .returned (.bool (winB a 1 3)) ∧ w' = w := by
 have hw := fun w => within_still a 1 3 w
 generalize winB a 1 3 = b at hw ⊢
 go_enter Try.func48, Try.ntmps48
 go_wp2_with (go_at_call 46; refine (hw _).mono ?_; rintro e w' ⟨rfl, rfl⟩)
 go_ret
 exact ⟨rfl, rfl⟩
set_option maxHeartbeats 16000000 in
set_option maxRecDepth 100000 in
theorem impl_MakePuzzle.no (a0_0 : Int) (a0_1 : Int) (A0_2 : Option Addr) (c0_2 : Nat) (l0_2 : List (S87)) (a1 a2 : Int) (t : Bool) (w : World) (hr0_2 : Kd.C k87 w A0_2 l0_2.length l0_2) (hc0_2 : l0_2.length ≤ c0_2) (ht : impl_isHiddenCut.f a0_0 a0_1 l0_2 = some t) (b1 b2 : Bool) (hb1 : winB a1 0 6 = b1) (hb2 : winB a2 0 9999 = b2) (hn : (t && b1 && b2) = false) :
  Calls Try.prog 20 #[.agg #[.int .i64 a0_0, .int .i64 a0_1, .slice A0_2 l0_2.length c0_2], .int .i64 a1, .int .i64 a2] w fun e w' => e = .returned (.tuple #[.agg #[.int .i64 0, .int .i64 0, .slice none 0 0], .bool false]) ∧ Below w.heap.size w w' := by
 have hu1 := Try.underlying31
 have hu2 := Try.underlying47
 have HH := As_ (fun w1 hh => impl_isHiddenCut.calls a0_0 a0_1 A0_2 c0_2 l0_2 t w1 hh hc0_2 ht)
 have HR := As_ hr0_2
 have HB := As_ (Below.refl w.heap.size w)
 have hw1 := fun w1 => within_still a1 0 6 w1
 have hw2 := fun w1 => within_still a2 0 9999 w1
 rw [hb1] at hw1
 rw [hb2] at hw2
 clear hr0_2 hc0_2 ht hb1 hb2
 have hcase : t = false ∨ (t = true ∧ b1 = false) ∨ (t = true ∧ b1 = true ∧ b2 = false) := by
  cases t <;> cases b1 <;> cases b2 <;> simp_all
 clear hn
 rcases hcase with rfl | ⟨rfl, rfl⟩ | ⟨rfl, rfl, rfl⟩
 all_goals
  go_enter Try.func20, Try.ntmps20
  go_wp2_with (first
   | (go_at_call 39; refine (HH.out _ (Kd.C_below HR.out (below_alloc (below_alloc (below_alloc HB.out _) _) _))).mono ?_; rintro e w1 ⟨rfl, hb⟩; have b5 := blk_b hb (alloc3_b _ _ _ _); have hs5 : w1.cell? ⟨w.heap.size + 1, 0, none⟩ = some (.int .i64 a2) := (blk_cell b5 0).trans rfl; have b6 := blk_b hb (alloc3_c _ _ _ _); obtain ⟨q0, q1, q2⟩ := c3_ b6; obtain ⟨f0, f1, f2⟩ := z3_ b6; have B6 := As_ b6; have HB1 := As_ (below_step (below_alloc (below_alloc (below_alloc HB.out _) _) _) hb); clear hb b5 b6)
   | (go_at_call 46; first | ((with_reducible refine (hw1 _).mono ?_); rintro e w1 ⟨rfl, rfl⟩) | ((with_reducible refine (hw2 _).mono ?_); rintro e w1 ⟨rfl, rfl⟩)))
  refine bodyPost_ret (results_ct rfl _ _ (w.heap.size + 1 + 1) 47 #[.int .i64 0, .int .i64 0, .slice none 0 0] (0, 0) _ rfl (blk_put (blk_put (blk_put B6.out 0 _ rfl) 1 _ rfl) 2 _ rfl) hu2 rfl (by kernel_rfl)) rfl ?_
  exact ⟨rfl, below_set (below_set (below_set HB1.out (by omega)) (by omega)) (by omega)⟩
set_option maxHeartbeats 32000000 in
set_option maxRecDepth 100000 in
theorem impl_MakePuzzle.yes (k : Nat) (a0_0 : Int) (a0_1 : Int) (A0_2 : Option Addr) (c0_2 : Nat) (l0_2 : List (S87)) (a1 a2 : Int) (r : List S42) (w : World) (hr0_2 : Kd.C k87 w A0_2 l0_2.length l0_2) (hc0_2 : l0_2.length ≤ c0_2) (ht : impl_isHiddenCut.f a0_0 a0_1 l0_2 = some true) (h10 : 0 ≤ a1) (h16 : a1 ≤ 6) (h20 : 0 ≤ a2) (h29 : a2 ≤ 9999) (hw : 1 ≤ a0_0 ∧ a0_0 ≤ 6) (hh : 1 ≤ a0_1 ∧ a0_1 ≤ 6) (hl : mkLoop k a0_0 a0_1 l0_2 a1.toNat a2 [] = some r) :
  Calls Try.prog 20 #[.agg #[.int .i64 a0_0, .int .i64 a0_1, .slice A0_2 l0_2.length c0_2], .int .i64 a1, .int .i64 a2] w fun e w' => ∃ v2_ : Value, e = .returned (.tuple #[.agg #[.int .i64 a0_0, .int .i64 a0_1, v2_], .bool true]) ∧ Kd.R k42 42 w' w.heap.size (fun _ => True) v2_ r ∧ Below w.heap.size w w' := by
 have hu1 := Try.underlying31
 have hu2 := Try.underlying47
 have hu3 := Try.underlying42
 have HH := As_ (fun w1 hh => impl_isHiddenCut.calls a0_0 a0_1 A0_2 c0_2 l0_2 true w1 hh hc0_2 ht)
 have HR := As_ hr0_2
 have HC := As_ hc0_2
 have HB := As_ (Below.refl w.heap.size w)
 have hw1 := fun w1 => within_still a1 0 6 w1
 have hw2 := fun w1 => within_still a2 0 9999 w1
 rw [show winB a1 0 6 = true by unfold winB; simp; omega] at hw1
 rw [show winB a2 0 9999 = true by unfold winB; simp; omega] at hw2
 obtain ⟨p, hp⟩ : ∃ p, p = a0_0 * a0_1 := ⟨_, rfl⟩
 have hp1 : 1 ≤ p := by rw [hp]; have := Int.mul_le_mul hw.1 hh.1 (by omega) (by omega); omega
 have hp36 : p ≤ 36 := by rw [hp]; have := Int.mul_le_mul hw.2 hh.2 (by omega) (by omega); omega
 have hpw : wrap64 (a0_0 * a0_1) = p := by rw [← hp]; unfold wrap64; omega
 have HP := As_ hp
 have HPW := As_ hpw
 have HL := As_ hl
 have HS0 := As_ (⟨h20, h29⟩ : 0 ≤ a2 ∧ a2 ≤ 9999)
 have eg : ∀ args w, (callFunc 47 args).run Try.prog w = .ok (.enter 47 args) w := enters_of Try.func47 (by kernel_rfl) rfl
 clear hr0_2 hc0_2 ht hl hp hpw h20 h29 hw hh
 go_enter Try.func20, Try.ntmps20
 go_wp2_with (first
  | (go_at_call 39; refine (HH.out _ (Kd.C_below HR.out (below_alloc (below_alloc (below_alloc HB.out _) _) _))).mono ?_; rintro e w1 ⟨rfl, hb⟩; have b4 := blk_b hb (alloc3_a _ _ _ _); have b5 := blk_b hb (alloc3_b _ _ _ _); have b6 := blk_b hb (alloc3_c _ _ _ _); have hs5 : w1.cell? ⟨w.heap.size + 1, 0, none⟩ = some (.int .i64 a2) := (blk_cell b5 0).trans rfl; obtain ⟨q0, q1, q2⟩ := c3_ b4; have B4 := As_ b4; have B5 := As_ b5; have B6 := As_ b6; have HB1 := As_ (below_step (below_alloc (below_alloc (below_alloc HB.out _) _) _) hb); clear hb b4 b5 b6)
  | (go_at_call 46; first | ((with_reducible refine (hw1 _).mono ?_); rintro e w1 ⟨rfl, rfl⟩) | ((with_reducible refine (hw2 _).mono ?_); rintro e w1 ⟨rfl, rfl⟩)))
 clear hs5 q0 q1 q2 hw1 hw2
 go_loopg [32] a1.toNat (fun gg s32 wr => ∃ (i s : Int) (v : Value) (acc : List S42), 0 ≤ i ∧ i ≤ a1 ∧ Aside0 (a1.toNat - i.toNat ≤ gg) ∧ s32 = .int .i64 i ∧ Aside0 (0 ≤ s ∧ s ≤ 10006) ∧ Aside0 (mkLoop k a0_0 a0_1 l0_2 (a1.toNat - i.toNat) s acc = some r) ∧ Aside0 (acc.length ≤ i.toNat) ∧ Aside0 (Below w.heap.size w wr) ∧ Aside0 (wr.heap[w.heap.size]? = some (.cells #[.int .i64 a0_0, .int .i64 a0_1, .slice A0_2 l0_2.length c0_2] 31 (0, 0))) ∧ Aside0 (wr.heap[w.heap.size + 1]? = some (.cells #[.int .i64 s] 3 (0, 0))) ∧ Aside0 (wr.heap[w.heap.size + 1 + 1]? = some (.cells #[.int .i64 0, .int .i64 0, .slice none 0 0] 47 (0, 0))) ∧ Aside0 (wr.heap[w1.heap.size]? = some (.cells #[.int .i64 a0_0, .int .i64 a0_1, v] 47 (0, 0))) ∧ Aside0 (Kd.R k42 42 wr (w1.heap.size + 1) (fun _ => True) v acc))
 case atStart => exact ⟨0, a2, .slice none 0 0, [], by omega, by omega, ⟨by omega⟩, rfl, ⟨by have := HS0.out; omega⟩, ⟨HL.out⟩, ⟨by simp⟩, ⟨below_alloc HB1.out _⟩, ⟨blk_alloc B4.out _⟩, ⟨blk_alloc B5.out _⟩, ⟨blk_alloc B6.out _⟩, ⟨heap_alloc_new w1 _⟩, ⟨Kd.R_nil _ _ _ _ _⟩⟩
 case round =>
  obtain ⟨i, s, v, acc, hi0, hi1, hg, rfl, HSB, HLO, HAC, BW, C4, C5, C6, C9, HO⟩ := hrel
  have hw1s : w.heap.size + 1 + 1 < w1.heap.size := blk_lt B6.out
  have HW1 := As_ hw1s
  clear hw1s
  by_cases hlt : i < a1
  case neg =>
   have hlo : acc = r := by
    have := HLO.out
    rw [show a1.toNat - i.toNat = 0 by omega] at this
    exact Option.some.inj this
   subst hlo
   obtain ⟨A9, n9, rfl⟩ := Kd.R_slice HO.out
   obtain ⟨q0, q1, q2⟩ := c3_ C9.out
   obtain ⟨q3, q4, q5⟩ := c3_ C6.out
   obtain ⟨f3, f4, f5⟩ := z3_ C6.out
   go_wp2
   refine bodyPost_ret (results_ct rfl _ _ (w.heap.size + 1 + 1) 47 #[.int .i64 a0_0, .int .i64 a0_1, .slice A9 acc.length n9] (0, 0) _ rfl (blk_put (blk_put (blk_put C6.out 0 _ rfl) 1 _ rfl) 2 _ rfl) hu2 rfl (by kernel_rfl)) rfl ?_
   have hwa := HW1.out
   have hwb := BW.out.size
   refine ⟨_, rfl, ?_, below_set (below_set (below_set BW.out (by omega)) (by omega)) (by omega)⟩
   refine Kd.R_lower (base := w1.heap.size + 1) ?_ (by omega)
   exact R_past (p := ⟨w.heap.size + 1 + 1, 2, none⟩) (R_past (p := ⟨w.heap.size + 1 + 1, 1, none⟩) (R_past (p := ⟨w.heap.size + 1 + 1, 0, none⟩) HO.out (by show w.heap.size + 1 + 1 < w1.heap.size + 1; omega) _) (by show w.heap.size + 1 + 1 < w1.heap.size + 1; omega) _) (by show w.heap.size + 1 + 1 < w1.heap.size + 1; omega) _
  obtain ⟨q, hq⟩ : ∃ q, a1.toNat - i.toNat = q + 1 := ⟨a1.toNat - i.toNat - 1, by omega⟩
  have hLO := HLO.out
  rw [hq] at hLO
  obtain ⟨⟨cl, s2⟩, hR, hLO⟩ := Option.bind_eq_some_iff.mp hLO
  simp only at hLO
  obtain ⟨z, hz⟩ : ∃ z, mkNext s = z := ⟨_, rfl⟩
  have hz01 := mkNext_in s
  rw [hz] at hz01
  obtain ⟨hz0, hz1⟩ := hz01
  unfold mkRound at hR
  rw [hz] at hR
  have HCL := As_ (fun W hW => mk_cl s z HSB.out.1 HSB.out.2 hz (w.heap.size + 1) W hW)
  have HR2 := As_ hR
  have HLQ := As_ hLO
  have HQ := As_ hq
  clear hR hLO hz hq HLO
  go_upto_region 8 with (go_at_call 47; refine (HCL.out _ C5.out).mono ?_; rintro e w2 ⟨rfl, rfl⟩)
  have hws := HW1.out
  have hsz : (wr.setCell ⟨w.heap.size + 1, 0, none⟩ (.int .i64 z)).heap.size = wr.heap.size := by simp
  have CC := heap_alloc_new (wr.setCell ⟨w.heap.size + 1, 0, none⟩ (.int .i64 z)) (.cells #[.int .i64 (z % 6), .int .i64 0, .int .i64 0] 42 (0, 0))
  rw [hsz] at CC
  have D4 := As_ (blk_alloc (blk_far (p := ⟨w.heap.size + 1, 0, none⟩) C4.out (by simp) (.int .i64 z)) (.cells #[.int .i64 (z % 6), .int .i64 0, .int .i64 0] 42 (0, 0)))
  have D5 := As_ (blk_alloc (blk_put C5.out 0 (.int .i64 z) rfl) (.cells #[.int .i64 (z % 6), .int .i64 0, .int .i64 0] 42 (0, 0)))
  have D6 := As_ (blk_alloc (blk_far (p := ⟨w.heap.size + 1, 0, none⟩) C6.out (by simp) (.int .i64 z)) (.cells #[.int .i64 (z % 6), .int .i64 0, .int .i64 0] 42 (0, 0)))
  have D9 := As_ (blk_alloc (blk_far (p := ⟨w.heap.size + 1, 0, none⟩) C9.out (by show w1.heap.size ≠ w.heap.size + 1; omega) (.int .i64 z)) (.cells #[.int .i64 (z % 6), .int .i64 0, .int .i64 0] 42 (0, 0)))
  have BW2 := As_ (below_alloc (below_set (g := w.heap.size + 1) (j := 0) (v := .int .i64 z) BW.out (by omega)) (.cells #[.int .i64 (z % 6), .int .i64 0, .int .i64 0] 42 (0, 0)))
  have HO2 := As_ (Kd.R_below (Kd.R_mono (ok' := fun k => k < wr.heap.size) (Kd.R_bound (R_past (p := ⟨w.heap.size + 1, 0, none⟩) HO.out (by show w.heap.size + 1 < w1.heap.size + 1; omega) (.int .i64 z))) (fun k hk => by have h9 := hk.2.2.1; rwa [hsz] at h9)) (below_alloc (Below.refl _ _) (.cells #[.int .i64 (z % 6), .int .i64 0, .int .i64 0] 42 (0, 0))))
  have hwr : w1.heap.size < wr.heap.size := blk_lt C9.out
  have HWR := As_ hwr
  clear hsz C4 C5 C6 C9 BW HO hws hwr HCL
  have DC := As_ CC
  clear CC
  generalize ((wr.setCell ⟨w.heap.size + 1, 0, none⟩ (.int .i64 z)).alloc (.cells #[.int .i64 (z % 6), .int .i64 0, .int .i64 0] 42 (0, 0))) = W2 at D4 D5 D6 D9 BW2 HO2 DC ⊢
  have hk0 : 0 ≤ z % 6 := by omega
  have hk5 : z % 6 ≤ 5 := by omega
  generalize z % 6 = kd at hk0 hk5 DC HR2 ⊢
  obtain ⟨y, hy⟩ : ∃ y, mkNext z = y := ⟨_, rfl⟩
  have hy01 := mkNext_in z
  rw [hy] at hy01
  obtain ⟨hy0, hy1⟩ := hy01
  have HCL2 := As_ (fun W hW => mk_cl z y hz0 hz1 hy (w.heap.size + 1) W hW)
  have hR := HR2.out
  rw [hy] at hR
  clear hy HR2
  by_cases h3 : 1 ≤ kd ∧ kd ≤ 3
  ·
   rw [if_pos h3] at hR
   obtain ⟨vt, hvt, hR⟩ := Option.bind_eq_some_iff.mp hR
   simp only [Option.some.injEq, Prod.mk.injEq] at hR
   obtain ⟨rfl, rfl⟩ := hR
   obtain ⟨aa, haa⟩ : ∃ aa, mkArg a0_0 a0_1 kd y = aa := ⟨_, rfl⟩
   rw [haa] at hvt HLQ
   have HTD := As_ (fun w1 hh => impl_told.calls k kd aa a0_0 a0_1 A0_2 c0_2 l0_2 vt w1 hh HC.out hvt)
   have HHT := As_ (show ∀ w1, Calls Try.prog 48 #[.int .i64 kd] w1 fun e w' => e = .returned (.bool true) ∧ w' = w1 from fun w1 => by have := hasTwo_still kd w1; rwa [show winB kd 1 3 = true by unfold winB; simp; omega] at this)
   have hkc : kd = 1 ∨ kd = 2 ∨ kd = 3 := by omega
   have HY := As_ (⟨hy0, hy1⟩ : 0 ≤ y ∧ y ≤ 10006)
   clear hvt h3 hk0 hk5
   rcases hkc with rfl | rfl | rfl
   case' inl =>
    obtain ⟨cl, hcl⟩ : ∃ cl, cl = (⟨1, aa, vt⟩ : S42) := ⟨_, rfl⟩
    rw [← hcl] at HLQ
    have HCQ := As_ hcl
    clear hcl
    have hA1 : y % 3 + 1 = aa := haa
    obtain ⟨q0, q1, q2⟩ := c3_ DC.out
    obtain ⟨f0, f1, f2⟩ := z3_ DC.out
    clear haa
    go_upto_region 15 with (go_at_call 47; refine (HCL2.out _ D5.out).mono ?_; rintro e w2 ⟨rfl, rfl⟩)
    clear q0 q1 q2 f0 f1 f2 hA1
    have hwr := HWR.out
    have hws := HW1.out
    have E4 := As_ (blk_far (p := ⟨wr.heap.size, 1, none⟩) (blk_far (p := ⟨w.heap.size + 1, 0, none⟩) D4.out (by simp) (.int .i64 y)) (by show w.heap.size ≠ wr.heap.size; omega) (.int .i64 aa))
    have E5 := As_ (blk_far (p := ⟨wr.heap.size, 1, none⟩) (blk_put D5.out 0 (.int .i64 y) rfl) (by show w.heap.size + 1 ≠ wr.heap.size; omega) (.int .i64 aa))
    have E6 := As_ (blk_far (p := ⟨wr.heap.size, 1, none⟩) (blk_far (p := ⟨w.heap.size + 1, 0, none⟩) D6.out (by simp) (.int .i64 y)) (by show w.heap.size + 1 + 1 ≠ wr.heap.size; omega) (.int .i64 aa))
    have E9 := As_ (blk_far (p := ⟨wr.heap.size, 1, none⟩) (blk_far (p := ⟨w.heap.size + 1, 0, none⟩) D9.out (by show w1.heap.size ≠ w.heap.size + 1; omega) (.int .i64 y)) (by show w1.heap.size ≠ wr.heap.size; omega) (.int .i64 aa))
    have EC := As_ (blk_put (blk_far (p := ⟨w.heap.size + 1, 0, none⟩) DC.out (by show wr.heap.size ≠ w.heap.size + 1; omega) (.int .i64 y)) 1 (.int .i64 aa) rfl)
    have EW := As_ (below_set (g := wr.heap.size) (j := 1) (v := .int .i64 aa) (below_set (g := w.heap.size + 1) (j := 0) (v := .int .i64 y) BW2.out (by omega)) (by omega))
    have EO := As_ (Kd.R_far (p := ⟨wr.heap.size, 1, none⟩) (R_past (p := ⟨w.heap.size + 1, 0, none⟩) HO2.out (by show w.heap.size + 1 < w1.heap.size + 1; omega) (.int .i64 y)) (fun k hk => Nat.ne_of_lt hk) (.int .i64 aa))
    clear D4 D5 D6 D9 DC BW2 HO2 hwr hws
    generalize ((W2.setCell ⟨w.heap.size + 1, 0, none⟩ (.int .i64 y)).setCell ⟨wr.heap.size, 1, none⟩ (.int .i64 aa)) = W3 at E4 E5 E6 E9 EC EW EO ⊢
   case' inr.inl =>
    obtain ⟨cl, hcl⟩ : ∃ cl, cl = (⟨2, aa, vt⟩ : S42) := ⟨_, rfl⟩
    rw [← hcl] at HLQ
    have HCQ := As_ hcl
    clear hcl
    have hA1 : Int.tmod y p = aa := by rw [Int.tmod_eq_emod_of_nonneg hy0, ← haa, HP.out]; rfl
    have hpw : IntKind.i64.wrap (a0_0 * a0_1) = p := (i64_w _).trans HPW.out
    have hp0 : (p == 0) = false := by simp; omega
    have hp2 : ¬ p = 0 := by omega
    obtain ⟨q0, q1, q2⟩ := c3_ DC.out
    obtain ⟨f0, f1, f2⟩ := z3_ DC.out
    clear haa
    go_upto_region 12 with (fail)
    refine start_ (n := 10) (S := fun w' => w'.cell? ⟨w.heap.size, 0, none⟩ = some (.int .i64 a0_0) ∧ w'.cell? ⟨w.heap.size, 1, none⟩ = some (.int .i64 a0_1)) (ds := [9]) #[false, false, false, false, false, false, false, false, false, false] (by kernel_rfl) rfl rfl ⟨(show _ from (blk_cell D4.out 0).trans rfl), (show _ from (blk_cell D4.out 1).trans rfl)⟩ (fun hHeld => ?_)
    refine pu_ (v := ?_) (a' := ?_) 0 (some 49) #[true, false, false, false, false, false, false, false, false, false] rfl rfl (by kernel_rfl) (fun _ _ _ h => h) (.inl ⟨by rfl, ?_⟩) ?_ ?_; rotate_left
    · intro w'; go_simp; with_reducible rfl
    rotate_left
    · simp only [Act.put, sib_, sc0_, sc1_, i64_w, i32_w]; rfl
    refine pu_ (v := ?_) (a' := ?_) 2 (some 51) #[true, false, true, false, false, false, false, false, false, false] rfl rfl (by kernel_rfl) (fun _ _ _ h => h) (.inl ⟨by rfl, ?_⟩) ?_ ?_; rotate_left
    · intro w'; go_simp; with_reducible rfl
    rotate_left
    · simp only [Act.put, sib_, sc0_, sc1_, i64_w, i32_w]; rfl
    refine pu_ (v := ?_) (a' := ?_) 4 (some 53) #[true, false, true, false, true, false, false, false, false, false] rfl rfl (by kernel_rfl) (fun _ _ _ h => h) (.inl ⟨by rfl, ?_⟩) ?_ ?_; rotate_left
    · intro w'; go_simp; with_reducible rfl
    rotate_left
    · simp only [Act.put, sib_, sc0_, sc1_, i64_w, i32_w]; rfl
    refine take_ (i := 3) (N := some 52) (v := ?_) (a' := ?_) #[true, false, true, true, true, false, false, false, false, false] rfl rfl (by kernel_rfl) (fun _ _ _ h => h) (Or.inl ⟨by rfl, ?_⟩) hHeld ?_ ?_; rotate_left
    ·
     rintro w' ⟨s0, s1⟩
     go_simp
     with_reducible rfl
    rotate_left
    · simp only [Act.put, sib_, sc0_, sc1_, i64_w, i32_w]; rfl
    refine take_ (i := 5) (N := some 54) (v := ?_) (a' := ?_) #[true, false, true, true, true, true, false, false, false, false] rfl rfl (by kernel_rfl) (fun _ _ _ h => h) (Or.inl ⟨by rfl, ?_⟩) hHeld ?_ ?_; rotate_left
    ·
     rintro w' ⟨s0, s1⟩
     go_simp
     with_reducible rfl
    rotate_left
    · simp only [Act.put, sib_, sc0_, sc1_, i64_w, i32_w]; rfl
    refine pu_ (v := ?_) (a' := ?_) 6 (some 55) #[true, false, true, true, true, true, true, false, false, false] rfl rfl (by kernel_rfl) (fun _ _ _ h => h) (.inl ⟨by rfl, ?_⟩) ?_ ?_; rotate_left
    · intro w'; go_simp; with_reducible rfl
    rotate_left
    · simp only [Act.put, sib_, sc0_, sc1_, i64_w, i32_w]; rfl
    refine one_ (i := 1) (N := some 50) #[true, true, true, true, true, true, true, false, false, false] rfl rfl (by kernel_rfl) (by decide) (fun K hK => ?_)
    refine goesv_ (.tmp 49) 47 #[.pointer (some ⟨w.heap.size + 1, 0, none⟩)] eg #[.pointer (some ⟨w.heap.size + 1, 0, none⟩)] (by rfl) rfl rfl rfl (by simp only [List.map_toArray, List.map_nil]; rfl) ?_
    refine (HCL2.out W2.drew (show W2.drew.heap[w.heap.size + 1]? = _ from D5.out)).mono ?_
    rintro e w2 ⟨rfl, rfl⟩
    refine ⟨_, rfl, ?_⟩
    refine hK.out _ _ ⟨(cell_far (a := ⟨w.heap.size, 0, none⟩) (p := ⟨w.heap.size + 1, 0, none⟩) (by simp) _).trans hHeld.1, (cell_far (a := ⟨w.heap.size, 1, none⟩) (p := ⟨w.heap.size + 1, 0, none⟩) (by simp) _).trans hHeld.2⟩ (fun hHeld => ?_); clear hK K
    refine norm_ (a' := ?_) ?_ ?_; rotate_left
    ·
     show Act.put _ (some 50) _ = _
     simp only [Act.put, sib_, sc0_, sc1_, i64_w, i32_w]
     rfl
    refine pu_ (v := ?_) (a' := ?_) 7 (some 56) #[true, true, true, true, true, true, true, true, false, false] rfl rfl (by kernel_rfl) (fun _ _ _ h => h) (.inl ⟨by rfl, ?_⟩) ?_ ?_; rotate_left
    · intro w'; go_simp; with_reducible rfl
    rotate_left
    · simp only [Act.put, sib_, sc0_, sc1_, i64_w, i32_w]; rfl
    refine pu_ (v := ?_) (a' := ?_) 8 (some 57) #[true, true, true, true, true, true, true, true, true, false] rfl rfl (by kernel_rfl) (fun _ _ _ h => h) (.inl ⟨by rfl, ?_⟩) ?_ ?_; rotate_left
    · intro w'; go_simp; with_reducible rfl
    rotate_left
    · simp only [Act.put, sib_, sc0_, sc1_, i64_w, i32_w]; rfl
    refine last_ (i := 9) (N := none) #[true, true, true, true, true, true, true, true, true, true] rfl rfl (by kernel_rfl) (by decide) (fun K hK => ?_)
    refine skip_ (w1 := ?_) (by rfl) rfl ?_ ?_; rotate_left
    ·
     go_simp
     rfl
    refine hK.out _ _ ?_; clear hK K
    refine done_ (by kernel_rfl) ?_; clear hHeld q0 q1 q2 f0 f1 f2 hA1 hpw hp0 hp2
    go_upto_region 15 with (fail)
    have hwr := HWR.out
    have hws := HW1.out
    have E4 := As_ (blk_far (p := ⟨wr.heap.size, 1, none⟩) (blk_far (p := ⟨w.heap.size + 1, 0, none⟩) D4.out (by simp) (.int .i64 y)) (by show w.heap.size ≠ wr.heap.size; omega) (.int .i64 aa))
    have E5 := As_ (blk_far (p := ⟨wr.heap.size, 1, none⟩) (blk_put D5.out 0 (.int .i64 y) rfl) (by show w.heap.size + 1 ≠ wr.heap.size; omega) (.int .i64 aa))
    have E6 := As_ (blk_far (p := ⟨wr.heap.size, 1, none⟩) (blk_far (p := ⟨w.heap.size + 1, 0, none⟩) D6.out (by simp) (.int .i64 y)) (by show w.heap.size + 1 + 1 ≠ wr.heap.size; omega) (.int .i64 aa))
    have E9 := As_ (blk_far (p := ⟨wr.heap.size, 1, none⟩) (blk_far (p := ⟨w.heap.size + 1, 0, none⟩) D9.out (by show w1.heap.size ≠ w.heap.size + 1; omega) (.int .i64 y)) (by show w1.heap.size ≠ wr.heap.size; omega) (.int .i64 aa))
    have EC := As_ (blk_put (blk_far (p := ⟨w.heap.size + 1, 0, none⟩) DC.out (by show wr.heap.size ≠ w.heap.size + 1; omega) (.int .i64 y)) 1 (.int .i64 aa) rfl)
    have EW := As_ (below_set (g := wr.heap.size) (j := 1) (v := .int .i64 aa) (below_set (g := w.heap.size + 1) (j := 0) (v := .int .i64 y) BW2.out (by omega)) (by omega))
    have EO := As_ (Kd.R_far (p := ⟨wr.heap.size, 1, none⟩) (R_past (p := ⟨w.heap.size + 1, 0, none⟩) HO2.out (by show w.heap.size + 1 < w1.heap.size + 1; omega) (.int .i64 y)) (fun k hk => Nat.ne_of_lt hk) (.int .i64 aa))
    clear D4 D5 D6 D9 DC BW2 HO2 hwr hws
    obtain ⟨W3, hW3⟩ : ∃ W3, (((W2.setCell ⟨w.heap.size + 1, 0, none⟩ (.int .i64 y)).setCell ⟨wr.heap.size, 1, none⟩ (.int .i64 aa))).drewN 1 = W3 := ⟨_, rfl⟩
    replace E4 := As_ (blk_at hW3 E4.out)
    replace E5 := As_ (blk_at hW3 E5.out)
    replace E6 := As_ (blk_at hW3 E6.out)
    replace E9 := As_ (blk_at hW3 E9.out)
    replace EC := As_ (blk_at hW3 EC.out)
    replace EW := As_ (below_at hW3 EW.out)
    replace EO := As_ (Kd.R_at hW3 EO.out)
    change Code.wp _ _ _ _ ((((W2.setCell ⟨w.heap.size + 1, 0, none⟩ (.int .i64 y)).setCell ⟨wr.heap.size, 1, none⟩ (.int .i64 aa))).drewN 1)
    rw [hW3]
    clear hW3
   case' inr.inr =>
    obtain ⟨cl, hcl⟩ : ∃ cl, cl = (⟨3, aa, vt⟩ : S42) := ⟨_, rfl⟩
    rw [← hcl] at HLQ
    have HCQ := As_ hcl
    clear hcl
    have hA1 : y % 4 = aa := haa
    obtain ⟨q0, q1, q2⟩ := c3_ DC.out
    obtain ⟨f0, f1, f2⟩ := z3_ DC.out
    clear haa
    go_upto_region 15 with (go_at_call 47; refine (HCL2.out _ D5.out).mono ?_; rintro e w2 ⟨rfl, rfl⟩)
    clear q0 q1 q2 f0 f1 f2 hA1
    have hwr := HWR.out
    have hws := HW1.out
    have E4 := As_ (blk_far (p := ⟨wr.heap.size, 1, none⟩) (blk_far (p := ⟨w.heap.size + 1, 0, none⟩) D4.out (by simp) (.int .i64 y)) (by show w.heap.size ≠ wr.heap.size; omega) (.int .i64 aa))
    have E5 := As_ (blk_far (p := ⟨wr.heap.size, 1, none⟩) (blk_put D5.out 0 (.int .i64 y) rfl) (by show w.heap.size + 1 ≠ wr.heap.size; omega) (.int .i64 aa))
    have E6 := As_ (blk_far (p := ⟨wr.heap.size, 1, none⟩) (blk_far (p := ⟨w.heap.size + 1, 0, none⟩) D6.out (by simp) (.int .i64 y)) (by show w.heap.size + 1 + 1 ≠ wr.heap.size; omega) (.int .i64 aa))
    have E9 := As_ (blk_far (p := ⟨wr.heap.size, 1, none⟩) (blk_far (p := ⟨w.heap.size + 1, 0, none⟩) D9.out (by show w1.heap.size ≠ w.heap.size + 1; omega) (.int .i64 y)) (by show w1.heap.size ≠ wr.heap.size; omega) (.int .i64 aa))
    have EC := As_ (blk_put (blk_far (p := ⟨w.heap.size + 1, 0, none⟩) DC.out (by show wr.heap.size ≠ w.heap.size + 1; omega) (.int .i64 y)) 1 (.int .i64 aa) rfl)
    have EW := As_ (below_set (g := wr.heap.size) (j := 1) (v := .int .i64 aa) (below_set (g := w.heap.size + 1) (j := 0) (v := .int .i64 y) BW2.out (by omega)) (by omega))
    have EO := As_ (Kd.R_far (p := ⟨wr.heap.size, 1, none⟩) (R_past (p := ⟨w.heap.size + 1, 0, none⟩) HO2.out (by show w.heap.size + 1 < w1.heap.size + 1; omega) (.int .i64 y)) (fun k hk => Nat.ne_of_lt hk) (.int .i64 aa))
    clear D4 D5 D6 D9 DC BW2 HO2 hwr hws
    generalize ((W2.setCell ⟨w.heap.size + 1, 0, none⟩ (.int .i64 y)).setCell ⟨wr.heap.size, 1, none⟩ (.int .i64 aa)) = W3 at E4 E5 E6 E9 EC EW EO ⊢
   all_goals
    obtain ⟨q0, q1, q2⟩ := c3_ EC.out
    obtain ⟨r0, r1, r2⟩ := c3_ E4.out
    go_upto_region 18 with (first
     | (go_at_call 48; refine (HHT.out _).mono ?_; rintro e W3 ⟨rfl, rfl⟩)
     | (go_at_call 49; refine (HTD.out _ (Kd.C_below HR.out EW.out)).mono ?_; rintro e w4 ⟨rfl, hb⟩; have GC := As_ (blk_b hb EC.out); have hgc := (blk_cell GC.out 2).trans (show _ = some (.int .i64 0) from rfl); have hgf := blk_frozen GC.out 2; have G4 := As_ (blk_b hb E4.out); have G5 := As_ (blk_b hb E5.out); have G6 := As_ (blk_b hb E6.out); have G9 := As_ (blk_b hb E9.out); have GW := As_ (below_step EW.out hb); have GO := As_ (Kd.R_below EO.out hb); clear hb))
    have hws := HW1.out
    have hwr := HWR.out
    have hgs : wr.heap.size < w4.heap.size := blk_lt GC.out
    have X4 := As_ (blk_far (p := ⟨wr.heap.size, 2, none⟩) G4.out (by show w.heap.size ≠ wr.heap.size; omega) (.int .i64 vt))
    have X5 := As_ (blk_far (p := ⟨wr.heap.size, 2, none⟩) G5.out (by show w.heap.size + 1 ≠ wr.heap.size; omega) (.int .i64 vt))
    have X6 := As_ (blk_far (p := ⟨wr.heap.size, 2, none⟩) G6.out (by show w.heap.size + 1 + 1 ≠ wr.heap.size; omega) (.int .i64 vt))
    have X9 := As_ (blk_far (p := ⟨wr.heap.size, 2, none⟩) G9.out (by show w1.heap.size ≠ wr.heap.size; omega) (.int .i64 vt))
    have XC := As_ (blk_put GC.out 2 (.int .i64 vt) rfl)
    have XW := As_ (below_set (g := wr.heap.size) (j := 2) (v := .int .i64 vt) GW.out (by omega))
    have XO := As_ (Kd.R_mono (ok' := fun _ => True) (Kd.R_far (p := ⟨wr.heap.size, 2, none⟩) GO.out (fun k hk => Nat.ne_of_lt hk) (.int .i64 vt)) (fun _ _ => trivial))
    have XS : w1.heap.size + 1 ≤ (w4.setCell ⟨wr.heap.size, 2, none⟩ (.int .i64 vt)).heap.size := by simp; omega
    clear GC G4 G5 G6 G9 GW GO E4 E5 E6 E9 EC EW EO hgc hgf q0 q1 q2 r0 r1 r2 hgs
    generalize (w4.setCell ⟨wr.heap.size, 2, none⟩ (.int .i64 vt)) = X at X4 X5 X6 X9 XC XW XO XS ⊢
    obtain ⟨q0, q1, q2⟩ := c3_ XC.out
    have hv9 := (blk_cell X9.out 2).trans (show _ = some v from rfl)
    have hlen : (acc.length + 1) * 24 ≤ 140737488355328 := by have := HAC.out; omega
    go_wp2_with ((with_reducible refine gate_builtin (b := .append) (xs := #[.tmp 80, .tmp 82]) rfl ?_); at_builtin; refine Kd.R_append k42 (w0 := X) (w1.heap.size + 1) rfl (.tmp 80) (.tmp 82) 45 42 _ 24 rfl Try.underlying45 info42 rfl (by decide) (by decide) v acc (⟨_, aa, vt⟩ : S42) _ (fun _ => True) (fun _ => False) rfl rfl (k42_mkM _ _ _ _) (fun _ h => h.elim) (fun _ _ => trivial) XO.out (Below.refl _ _) XS hlen ?_; intro v1 w5 ho hb _ _; obtain ⟨gq, cq, rfl, hq1, hq2, hq3⟩ := Kd.R_form ho (by simp); have Y9 := As_ ((hb.block w1.heap.size (by omega)).trans X9.out); have hk2 := (blk_cell Y9.out 2).trans (show _ = some v from rfl); have hkf := blk_frozen Y9.out 2; have Y4 := As_ ((hb.block w.heap.size (by omega)).trans X4.out); have Y5 := As_ ((hb.block (w.heap.size + 1) (by omega)).trans X5.out); have Y6 := As_ ((hb.block (w.heap.size + 1 + 1) (by omega)).trans X6.out); have YW := As_ (below_weaken XW.out (by omega) hb); have YO := As_ ho; clear hb ho hq1 hq2 hq3)
    go_roundg (a1.toNat - (i + 1).toNat)
    case measure => have := hg.out; omega
    case rel =>
     refine ⟨i + 1, y, _, acc ++ [cl], by omega, by omega, ⟨by omega⟩, by go_num, ⟨HY.out⟩, ⟨?_⟩, ⟨?_⟩, ⟨below_set YW.out (by omega)⟩, ⟨blk_far (p := ⟨w1.heap.size, 2, none⟩) Y4.out (by show w.heap.size ≠ w1.heap.size; omega) _⟩, ⟨blk_far (p := ⟨w1.heap.size, 2, none⟩) Y5.out (by show w.heap.size + 1 ≠ w1.heap.size; omega) _⟩, ⟨blk_far (p := ⟨w1.heap.size, 2, none⟩) Y6.out (by show w.heap.size + 1 + 1 ≠ w1.heap.size; omega) _⟩, ⟨blk_put Y9.out 2 _ rfl⟩, ⟨?_⟩⟩
     ·
      have h9 := HLQ.out
      have hq9 := HQ.out
      rw [show a1.toNat - (i + 1).toNat = q by omega]
      exact h9
     ·
      have := HAC.out
      rw [List.length_append, List.length_singleton]
      omega
     ·
      have h9 := YO.out
      rw [← HCQ.out, show (acc ++ [cl]).length = acc.length + 1 by simp] at h9
      exact R_past (p := ⟨w1.heap.size, 2, none⟩) h9 (by show w1.heap.size < w1.heap.size + 1; omega) _
  ·
   rw [if_neg h3] at hR
   obtain ⟨vt, hvt, hR⟩ := Option.bind_eq_some_iff.mp hR
   simp only [Option.some.injEq, Prod.mk.injEq] at hR
   obtain ⟨rfl, rfl⟩ := hR
   have HTD := As_ (fun w1 hh => impl_told.calls k kd 0 a0_0 a0_1 A0_2 c0_2 l0_2 vt w1 hh HC.out hvt)
   have HHT := As_ (show ∀ w1, Calls Try.prog 48 #[.int .i64 kd] w1 fun e w' => e = .returned (.bool false) ∧ w' = w1 from fun w1 => by have := hasTwo_still kd w1; rwa [show winB kd 1 3 = false by unfold winB; simp; omega] at this)
   have g1 : (kd == 1) = false := by simp; omega
   have g2 : (kd == 2) = false := by simp; omega
   have g3 : (kd == 3) = false := by simp; omega
   obtain ⟨cl, hcl⟩ : ∃ cl, cl = (⟨kd, vt, 0⟩ : S42) := ⟨_, rfl⟩
   rw [← hcl] at HLQ
   have HCQ := As_ hcl
   clear hcl
   have HZ := As_ (⟨hz0, hz1⟩ : 0 ≤ z ∧ z ≤ 10006)
   clear hvt h3 hk0 hk5
   all_goals
    obtain ⟨q0, q1, q2⟩ := c3_ DC.out
    obtain ⟨r0, r1, r2⟩ := c3_ D4.out
    go_upto_region 18 with (first
     | (go_at_call 48; refine (HHT.out _).mono ?_; rintro e W3 ⟨rfl, rfl⟩)
     | (go_at_call 49; refine (HTD.out _ (Kd.C_below HR.out BW2.out)).mono ?_; rintro e w4 ⟨rfl, hb⟩; have GC := As_ (blk_b hb DC.out); have hgc := (blk_cell GC.out 1).trans (show _ = some (.int .i64 0) from rfl); have hgf := blk_frozen GC.out 1; have G4 := As_ (blk_b hb D4.out); have G5 := As_ (blk_b hb D5.out); have G6 := As_ (blk_b hb D6.out); have G9 := As_ (blk_b hb D9.out); have GW := As_ (below_step BW2.out hb); have GO := As_ (Kd.R_below HO2.out hb); clear hb))
    clear g1 g2 g3
    have hws := HW1.out
    have hwr := HWR.out
    have hgs : wr.heap.size < w4.heap.size := blk_lt GC.out
    have X4 := As_ (blk_far (p := ⟨wr.heap.size, 1, none⟩) G4.out (by show w.heap.size ≠ wr.heap.size; omega) (.int .i64 vt))
    have X5 := As_ (blk_far (p := ⟨wr.heap.size, 1, none⟩) G5.out (by show w.heap.size + 1 ≠ wr.heap.size; omega) (.int .i64 vt))
    have X6 := As_ (blk_far (p := ⟨wr.heap.size, 1, none⟩) G6.out (by show w.heap.size + 1 + 1 ≠ wr.heap.size; omega) (.int .i64 vt))
    have X9 := As_ (blk_far (p := ⟨wr.heap.size, 1, none⟩) G9.out (by show w1.heap.size ≠ wr.heap.size; omega) (.int .i64 vt))
    have XC := As_ (blk_put GC.out 1 (.int .i64 vt) rfl)
    have XW := As_ (below_set (g := wr.heap.size) (j := 1) (v := .int .i64 vt) GW.out (by omega))
    have XO := As_ (Kd.R_mono (ok' := fun _ => True) (Kd.R_far (p := ⟨wr.heap.size, 1, none⟩) GO.out (fun k hk => Nat.ne_of_lt hk) (.int .i64 vt)) (fun _ _ => trivial))
    have XS : w1.heap.size + 1 ≤ (w4.setCell ⟨wr.heap.size, 1, none⟩ (.int .i64 vt)).heap.size := by simp; omega
    clear GC G4 G5 G6 G9 GW GO D4 D5 D6 D9 DC BW2 HO2 hgc hgf q0 q1 q2 r0 r1 r2 hgs
    generalize (w4.setCell ⟨wr.heap.size, 1, none⟩ (.int .i64 vt)) = X at X4 X5 X6 X9 XC XW XO XS ⊢
    obtain ⟨q0, q1, q2⟩ := c3_ XC.out
    have hv9 := (blk_cell X9.out 2).trans (show _ = some v from rfl)
    have hlen : (acc.length + 1) * 24 ≤ 140737488355328 := by have := HAC.out; omega
    go_wp2_with ((with_reducible refine gate_builtin (b := .append) (xs := #[.tmp 80, .tmp 82]) rfl ?_); at_builtin; refine Kd.R_append k42 (w0 := X) (w1.heap.size + 1) rfl (.tmp 80) (.tmp 82) 45 42 _ 24 rfl Try.underlying45 info42 rfl (by decide) (by decide) v acc (⟨_, vt, 0⟩ : S42) _ (fun _ => True) (fun _ => False) rfl rfl (k42_mkM _ _ _ _) (fun _ h => h.elim) (fun _ _ => trivial) XO.out (Below.refl _ _) XS hlen ?_; intro v1 w5 ho hb _ _; obtain ⟨gq, cq, rfl, hq1, hq2, hq3⟩ := Kd.R_form ho (by simp); have Y9 := As_ ((hb.block w1.heap.size (by omega)).trans X9.out); have hk2 := (blk_cell Y9.out 2).trans (show _ = some v from rfl); have hkf := blk_frozen Y9.out 2; have Y4 := As_ ((hb.block w.heap.size (by omega)).trans X4.out); have Y5 := As_ ((hb.block (w.heap.size + 1) (by omega)).trans X5.out); have Y6 := As_ ((hb.block (w.heap.size + 1 + 1) (by omega)).trans X6.out); have YW := As_ (below_weaken XW.out (by omega) hb); have YO := As_ ho; clear hb ho hq1 hq2 hq3)
    go_roundg (a1.toNat - (i + 1).toNat)
    case measure => have := hg.out; omega
    case rel =>
     refine ⟨i + 1, z, _, acc ++ [cl], by omega, by omega, ⟨by omega⟩, by go_num, ⟨HZ.out⟩, ⟨?_⟩, ⟨?_⟩, ⟨below_set YW.out (by omega)⟩, ⟨blk_far (p := ⟨w1.heap.size, 2, none⟩) Y4.out (by show w.heap.size ≠ w1.heap.size; omega) _⟩, ⟨blk_far (p := ⟨w1.heap.size, 2, none⟩) Y5.out (by show w.heap.size + 1 ≠ w1.heap.size; omega) _⟩, ⟨blk_far (p := ⟨w1.heap.size, 2, none⟩) Y6.out (by show w.heap.size + 1 + 1 ≠ w1.heap.size; omega) _⟩, ⟨blk_put Y9.out 2 _ rfl⟩, ⟨?_⟩⟩
     ·
      have h9 := HLQ.out
      have hq9 := HQ.out
      rw [show a1.toNat - (i + 1).toNat = q by omega]
      exact h9
     ·
      have := HAC.out
      rw [List.length_append, List.length_singleton]
      omega
     ·
      have h9 := YO.out
      rw [← HCQ.out, show (acc ++ [cl]).length = acc.length + 1 by simp] at h9
      exact R_past (p := ⟨w1.heap.size, 2, none⟩) h9 (by show w1.heap.size < w1.heap.size + 1; omega) _
set_option maxHeartbeats 8000000 in
theorem impl_MakePuzzle.calls (k : Nat) (a0_0 : Int) (a0_1 : Int) (A0_2 : Option Addr) (c0_2 : Nat) (l0_2 : List (S87)) (a1 : Int) (a2 : Int) (r1 : Int) (r2 : Int) (r3 : List (S42)) (r4 : Bool) (w : World) (hr0_2 : Kd.C k87 w A0_2 l0_2.length l0_2) (hc0_2 : l0_2.length ≤ c0_2) (h : impl_MakePuzzle.f k a0_0 a0_1 l0_2 a1 a2 = some (r1, r2, r3, r4)) :
  Calls Try.prog 20 #[.agg #[.int .i64 a0_0, .int .i64 a0_1, .slice A0_2 l0_2.length c0_2], .int .i64 a1, .int .i64 a2] w fun e w' => ∃ v2_ : Value, e = .returned (.tuple #[.agg #[.int .i64 r1, .int .i64 r2, v2_], .bool r4]) ∧ Kd.R k42 42 w' w.heap.size (fun _ => True) v2_ r3 ∧ Below w.heap.size w w' := by
 unfold impl_MakePuzzle.f at h
 obtain ⟨t, ht, h⟩ := Option.bind_eq_some_iff.mp h
 by_cases ht2 : t = true
 ·
  subst ht2
  rw [if_pos rfl] at h
  by_cases hb : (0 ≤ a1 ∧ a1 ≤ 6) ∧ 0 ≤ a2 ∧ a2 ≤ 9999
  ·
   rw [if_pos hb] at h
   by_cases hw : (1 ≤ a0_0 ∧ a0_0 ≤ 6) ∧ 1 ≤ a0_1 ∧ a0_1 ≤ 6
   ·
    rw [if_pos hw] at h
    obtain ⟨r, hr, h⟩ := Option.bind_eq_some_iff.mp h
    simp only [Option.some.injEq, Prod.mk.injEq] at h
    obtain ⟨rfl, rfl, rfl, rfl⟩ := h
    exact impl_MakePuzzle.yes k a0_0 a0_1 A0_2 c0_2 l0_2 a1 a2 r w hr0_2 hc0_2 ht hb.1.1 hb.1.2 hb.2.1 hb.2.2 hw.1 hw.2 hr
   · rw [if_neg hw] at h; cases h
  ·
   rw [if_neg hb] at h
   simp only [Option.some.injEq, Prod.mk.injEq] at h
   obtain ⟨rfl, rfl, rfl, rfl⟩ := h
   refine (impl_MakePuzzle.no a0_0 a0_1 A0_2 c0_2 l0_2 a1 a2 true w hr0_2 hc0_2 ht _ _ rfl rfl ?_).mono ?_
   ·
    unfold winB
    rw [Bool.eq_false_iff]
    intro hh
    simp at hh
    exact hb ⟨hh.1, hh.2⟩
   ·
    rintro e w' ⟨rfl, hbb⟩
    exact ⟨_, rfl, Kd.R_nil _ _ _ _ _, hbb⟩
 ·
  rw [if_neg ht2] at h
  simp only [Option.some.injEq, Prod.mk.injEq] at h
  obtain ⟨rfl, rfl, rfl, rfl⟩ := h
  refine (impl_MakePuzzle.no a0_0 a0_1 A0_2 c0_2 l0_2 a1 a2 t w hr0_2 hc0_2 ht _ _ rfl rfl (by cases t <;> simp_all)).mono ?_
  rintro e w' ⟨rfl, hbb⟩
  exact ⟨_, rfl, Kd.R_nil _ _ _ _ _, hbb⟩

end Go.Proofs.Ytipiaiolhhnnhaa.PFnExactMakePuzzle
