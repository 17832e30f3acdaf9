-- Written by a program of this session (wip/tools/pg.py) out of the translation.
import Derived.Test.YtipiaiolhhnnhaaPFnExactMakePuzzlex0
import Derived.Test.YtipiaiolhhnnhaaPFnExactMakePuzzlex11
import Derived.Test.YtipiaiolhhnnhaaPFnExactMakePuzzlex12
import Derived.Test.YtipiaiolhhnnhaaPFnExactMakePuzzlex13
namespace Go.Proofs.Ytipiaiolhhnnhaa.PFnExactMakePuzzle
open Go.RowKit Go.Proofs.YtipiaiolhhnnhaaW.PrintWords Go.Proofs.YtipiaiolhhnnhaaW.PrintLast Go.Proofs.YtipiaiolhhnnhaaW.PrintMore Go.Proofs.YtipiaiolhhnnhaaH
attribute [local go_sem] max2_int min2_int max_two min_two max_three min_three max_four min_four   -- for this text's walks alone
set_option linter.unusedVariables false
set_option linter.unusedSimpArgs false

/-! ### impl_IsCut: function 62 (by hand) -/
/-- Have two squares a common cell? -/
def impl_IsCut.over (s t : S87) : Bool := (impl_overlap.f s.f0 s.f1 s.f2 t.f0 t.f1 t.f2).getD false
theorem impl_overlap.tot (a b c d e f : Int) : ∃ r, impl_overlap.f a b c d e f = some r := by
 unfold impl_overlap.f
 repeat' (first | exact ⟨_, rfl⟩ | split)
theorem impl_IsCut.over_some (s t : S87) : impl_overlap.f s.f0 s.f1 s.f2 t.f0 t.f1 t.f2 = some (impl_IsCut.over s t) := by
 obtain ⟨r, hr⟩ := impl_overlap.tot s.f0 s.f1 s.f2 t.f0 t.f1 t.f2
 simp [impl_IsCut.over, hr]
def winB (a b c : Int) : Bool := decide (b ≤ a) && decide (a ≤ c)
theorem impl_within.tot2 (a b c : Int) : impl_within.f a b c = some (winB a b c) := by
 unfold impl_within.f winB; by_cases h : b ≤ a <;> simp [h]
theorem impl_IsCut.pred (s : S87) (g : Nat) (w : World) (hg : w.heap[g]? = some (.cells #[.int .i64 s.f0, .int .i64 s.f1, .int .i64 s.f2] 87 (0, 0))) :
  PB Try.prog 85 #[.pointer (some ⟨g, 0, none⟩)] enc_Square (fun t => impl_IsCut.over s t) w := by
 intro W x hb
 have h0 : W.cell? ⟨g, 0, none⟩ = some (.int .i64 s.f0) := (hb.cell (p := ⟨g, 0, none⟩) (blk_lt hg)).trans ((blk_cell hg 0).trans rfl)
 have h1 : W.cell? ⟨g, 1, none⟩ = some (.int .i64 s.f1) := (hb.cell (p := ⟨g, 1, none⟩) (blk_lt hg)).trans ((blk_cell hg 1).trans rfl)
 have h2 : W.cell? ⟨g, 2, none⟩ = some (.int .i64 s.f2) := (hb.cell (p := ⟨g, 2, none⟩) (blk_lt hg)).trans ((blk_cell hg 2).trans rfl)
 have hgW : g < W.heap.size := Nat.lt_of_lt_of_le (blk_lt hg) hb.size
 have hu := Try.underlying87
 have hok := impl_IsCut.over_some s x
 have hne : ¬ g = W.heap.size := by omega
 have hc := fun w1 => impl_overlap.calls s.f0 s.f1 s.f2 x.f0 x.f1 x.f2 (impl_IsCut.over s x) w1 hok
 have HB := As_ hb
 clear hok hg hb
 show Calls Try.prog 85 #[enc_Square x, .pointer (some ⟨g, 0, none⟩)] W (fun e w' => e = .returned (.bool (impl_IsCut.over s x)) ∧ Below w.heap.size w w')
 generalize impl_IsCut.over s x = r at hc ⊢
 simp only [enc_Square]
 go_enter Try.func85, Try.ntmps85
 go_wp2_with (go_at_call 86; refine (hc _).mono ?_; rintro e w' ⟨rfl, hb'⟩)
 go_ret
 exact ⟨rfl, (HB.out.alloc HB.out.size _).trans (hb'.mono (by have := HB.out.size; simp; omega))⟩
theorem impl_isWide.tot (a : Int) : impl_isWide.f a = some (winB a 1 500) := by
 unfold impl_isWide.f; simp only [impl_within.tot2, Option.bind_some]
theorem impl_comparePlaces.tot (a b c d e f : Int) : ∃ r, impl_comparePlaces.f a b c d e f = some r := by
 unfold impl_comparePlaces.f
 repeat' (first | exact ⟨_, rfl⟩ | split)
def impl_IsCut.cmp (s t : S87) : Int := (impl_comparePlaces.f s.f0 s.f1 s.f2 t.f0 t.f1 t.f2).getD 0
theorem impl_IsCut.cmp_some (s t : S87) : impl_comparePlaces.f s.f0 s.f1 s.f2 t.f0 t.f1 t.f2 = some (impl_IsCut.cmp s t) := by
 obtain ⟨r, hr⟩ := impl_comparePlaces.tot s.f0 s.f1 s.f2 t.f0 t.f1 t.f2
 simp [impl_IsCut.cmp, hr]
/-- Is square i right, those ahead of it being so? -/
def impl_IsCut.ok (w h : Int) (l : List S87) (i : Int) : Bool :=
 winB (rd_T87 l i).f2 1 (mn w h) && winB (rd_T87 l i).f0 0 (wrap64 (w - (rd_T87 l i).f2)) && winB (rd_T87 l i).f1 0 (wrap64 (h - (rd_T87 l i).f2)) &&
 !(decide (0 < i) && decide (0 ≤ impl_IsCut.cmp (rd_T87 l (i - 1)) (rd_T87 l i))) && !(l.take i.toNat).any (fun t => impl_IsCut.over (rd_T87 l i) t)
def impl_IsCut.area (l : List S87) : Nat → Int
 | 0 => 0
 | i + 1 => wrap64 (impl_IsCut.area l i + wrap64 ((rd_T87 l i).f2 * (rd_T87 l i).f2))
def impl_IsCut.all (w h : Int) (l : List S87) : Bool := (List.range l.length).all (fun i => impl_IsCut.ok w h l i) && decide (impl_IsCut.area l l.length = wrap64 (w * h))
def impl_IsCut.f (a0_0 : Int) (a0_1 : Int) (l0_2 : List (S87)) : Option Bool := some (winB a0_0 1 500 && winB a0_1 1 500 && decide (l0_2.length ≤ 30) && impl_IsCut.all a0_0 a0_1 l0_2)
theorem impl_IsCut.all_no (w h : Int) (l : List S87) (i : Int) (h0 : 0 ≤ i) (h1 : i < l.length) (hk : impl_IsCut.ok w h l i = false) : impl_IsCut.all w h l = false := by
 unfold impl_IsCut.all
 rw [Bool.and_eq_false_iff]
 left
 rw [List.all_eq_false]
 refine ⟨i.toNat, List.mem_range.2 (by omega), ?_⟩
 rw [show ((i.toNat : Nat) : Int) = i by omega, hk]
 simp
theorem impl_IsCut.all_yes (w h : Int) (l : List S87) (hk : ∀ i : Int, 0 ≤ i → i < l.length → impl_IsCut.ok w h l i = true) : impl_IsCut.all w h l = decide (impl_IsCut.area l l.length = wrap64 (w * h)) := by
 unfold impl_IsCut.all
 have : (List.range l.length).all (fun i => impl_IsCut.ok w h l i) = true := by
  rw [List.all_eq_true]
  intro i hi
  exact hk i (by omega) (by have := List.mem_range.1 hi; omega)
 rw [this, Bool.true_and]
set_option maxHeartbeats 16000000 in
set_option maxRecDepth 100000 in
theorem impl_IsCut.calls (a0_0 : Int) (a0_1 : Int) (A0_2 : Option Addr) (c0_2 : Nat) (l0_2 : List (S87)) (r : Bool) (w : World) (hr0_2 : Kd.C k87 w A0_2 l0_2.length l0_2) (hc0_2 : l0_2.length ≤ c0_2) (h : impl_IsCut.f a0_0 a0_1 l0_2 = some r) :
  Calls Try.prog 62 #[.agg #[.int .i64 a0_0, .int .i64 a0_1, .slice A0_2 l0_2.length c0_2]] w fun e w' => e = .returned (.bool r) ∧ Below w.heap.size w w' := by
 have hu54 := Try.underlying31
 have hu163 := Try.underlying87
 have HR := As_ hr0_2
 have HC := As_ hc0_2
 clear hr0_2 hc0_2
 unfold impl_IsCut.f at h
 obtain rfl := Option.some.inj h
 clear h
 have eg : ∀ args w, (callFunc 85 args).run Try.prog w = .ok (.enter 85 args) w := enters_of Try.func85 (by kernel_rfl) rfl
 have hW := fun w1 => impl_isWide.calls a0_0 _ w1 (impl_isWide.tot a0_0)
 have hH := fun w1 => impl_isWide.calls a0_1 _ w1 (impl_isWide.tot a0_1)
 have HB := As_ (Below.refl w.heap.size w)
 cases h1 : winB a0_0 1 500 with
 | false =>
  rw [h1] at hW
  simp only [Bool.false_and]
  clear hH h1
  go_enter Try.func62, Try.ntmps62
  go_wp2_with (go_at_call 82; refine (hW _).mono ?_; rintro e w' ⟨rfl, ⟨nq, rfl⟩⟩)
  go_ret
  exact ⟨rfl, pw_below_drewN (HB.out.alloc HB.out.size _) _⟩
 | true =>
  rw [h1] at hW
  simp only [Bool.true_and]
  clear h1
  cases h2 : winB a0_1 1 500 with
  | false =>
   rw [h2] at hH
   simp only [Bool.false_and]
   clear h2
   go_enter Try.func62, Try.ntmps62
   go_wp2_with (go_at_call 82; first | ((with_reducible refine (hW _).mono ?_); rintro e w' ⟨rfl, ⟨nq, rfl⟩⟩) | ((with_reducible refine (hH _).mono ?_); rintro e w' ⟨rfl, ⟨nq, rfl⟩⟩))
   go_ret
   exact ⟨rfl, by repeat (first | exact HB.out | apply ba_ | apply bn_)⟩
  | true =>
   rw [h2] at hH
   simp only [Bool.true_and]
   clear h2
   by_cases hl : l0_2.length ≤ 30
   case neg =>
    rw [decide_eq_false hl]
    simp only [Bool.false_and]
    have hL : decide ((l0_2.length : Int) > 30) = true := decide_eq_true (by omega)
    have hL2 : decide ((30 : Int) < (l0_2.length : Int)) = true := decide_eq_true (by omega)
    have hL3 : decide (30 < l0_2.length) = true := decide_eq_true (by omega)
    clear hl
    go_enter Try.func62, Try.ntmps62
    go_wp2_with (go_at_call 82; first | ((with_reducible refine (hW _).mono ?_); rintro e w' ⟨rfl, ⟨nq, rfl⟩⟩) | ((with_reducible refine (hH _).mono ?_); rintro e w' ⟨rfl, ⟨nq, rfl⟩⟩))
    go_ret
    exact ⟨rfl, by repeat (first | exact HB.out | apply ba_ | apply bn_)⟩
   rw [decide_eq_true hl]
   simp only [Bool.true_and]
   have hL : decide ((l0_2.length : Int) > 30) = false := decide_eq_false (by omega)
   have hL2 : decide ((30 : Int) < (l0_2.length : Int)) = false := decide_eq_false (by omega)
   have hL3 : decide (30 < l0_2.length) = false := decide_eq_false (by omega)
   have HL := As_ hl
   have HNO := As_ (impl_IsCut.all_no a0_0 a0_1 l0_2)
   have HYES := As_ (impl_IsCut.all_yes a0_0 a0_1 l0_2)
   clear hl
   generalize hq : impl_IsCut.all a0_0 a0_1 l0_2 = q at HNO HYES ⊢
   clear hq
   obtain ⟨n, hn⟩ : ∃ n, n = l0_2.length := ⟨_, rfl⟩
   have hn30 : n ≤ 30 := by rw [hn]; exact HL.out
   have HN := As_ hn
   rw [← hn] at hL hL2 hL3 ⊢
   clear hn
   go_enter Try.func62, Try.ntmps62
   go_wp2_with (go_at_call 82; first | ((with_reducible refine (hW _).mono ?_); rintro e w' ⟨rfl, ⟨nq, rfl⟩⟩) | ((with_reducible refine (hH _).mono ?_); rintro e w' ⟨rfl, ⟨nq, rfl⟩⟩))
   have HR2 := As_ (show Kd.C k87 w A0_2 n l0_2 by rw [HN.out]; exact HR.out)
   go_loopg [3, 25] n (fun gg s3 s25 wr => ∃ i : Int, 0 ≤ i ∧ i ≤ n ∧ Aside0 (n - i.toNat ≤ gg) ∧ s25 = .int .i64 i ∧ s3 = .int .i64 (impl_IsCut.area l0_2 i.toNat) ∧ Aside0 (Below w.heap.size w wr) ∧ Aside0 (wr.heap[w.heap.size]? = some (.cells #[.int .i64 a0_0, .int .i64 a0_1, .slice A0_2 n c0_2] 31 (0, 0))) ∧ Aside0 (∀ j : Int, 0 ≤ j → j < i → impl_IsCut.ok a0_0 a0_1 l0_2 j = true))
   case atStart => exact ⟨0, by omega, by omega, ⟨by omega⟩, rfl, rfl, ⟨by repeat (first | exact HB.out | apply ba_ | apply bn_)⟩, ⟨heap_alloc_new w _⟩, ⟨fun j h0 hj => absurd hj (by omega)⟩⟩
   case round =>
    obtain ⟨i, hi0, hin, hg, rfl, rfl, BW, BK, AA⟩ := hrel
    have hp0 : wr.cell? ⟨w.heap.size, 0, none⟩ = some (.int .i64 a0_0) := (blk_cell BK.out 0).trans rfl
    have hp1 : wr.cell? ⟨w.heap.size, 1, none⟩ = some (.int .i64 a0_1) := (blk_cell BK.out 1).trans rfl
    have hp2 : wr.cell? ⟨w.heap.size, 2, none⟩ = some (.slice A0_2 n c0_2) := (blk_cell BK.out 2).trans rfl
    have hwr : w.heap.size < wr.heap.size := blk_lt BK.out
    by_cases hlt : i < n
    case neg =>
     have e : i = n := by omega
     subst e
     have HQ := HYES.out (fun j h0 h1 => AA.out j h0 (by have := HN.out; omega))
     rw [← HN.out] at HQ
     have HQ2 := As_ HQ
     rw [Int.toNat_natCast]
     generalize impl_IsCut.area l0_2 n = ar at HQ2
     clear HQ
     go_wp2
     go_ret
     exact ⟨ret_bool (by rw [HQ2.out]; rfl), BW.out⟩
    obtain ⟨ad, ea, hs0, hs1, hs2⟩ := at_T87 HR2.out i hi0 hlt
    cases ea
    replace hs0 := (BW.out.cell (World.block_lt_of_cell? w _ hs0)).trans hs0
    replace hs1 := (BW.out.cell (World.block_lt_of_cell? w _ hs1)).trans hs1
    replace hs2 := (BW.out.cell (World.block_lt_of_cell? w _ hs2)).trans hs2
    have HN1 := As_ (HNO.out i hi0 (by have := HN.out; omega))
    obtain ⟨s, hs⟩ : ∃ s, s = rd_T87 l0_2 i := ⟨_, rfl⟩
    have HOK := As_ (show impl_IsCut.ok a0_0 a0_1 l0_2 i = (winB s.f2 1 (mn a0_0 a0_1) && winB s.f0 0 (wrap64 (a0_0 - s.f2)) && winB s.f1 0 (wrap64 (a0_1 - s.f2)) && !(decide (0 < i) && decide (0 ≤ impl_IsCut.cmp (rd_T87 l0_2 (i - 1)) s)) && !(l0_2.take i.toNat).any (fun t => impl_IsCut.over s t)) by rw [hs]; rfl)
    rw [← hs] at hs0 hs1 hs2
    have HS := As_ hs
    clear hs
    obtain ⟨ar, har⟩ : ∃ ar, ar = impl_IsCut.area l0_2 i.toNat := ⟨_, rfl⟩
    rw [← har]
    have HAR := As_ har
    clear har
    have hmn : (a0_1 < a0_0 ∧ mn a0_0 a0_1 = a0_1) ∨ (¬ a0_1 < a0_0 ∧ mn a0_0 a0_1 = a0_0) := by
     unfold mn; omega
    have hW2 := fun w1 => impl_within.calls s.f0 0 (wrap64 (a0_0 - s.f2)) _ w1 (impl_within.tot2 _ _ _)
    have hW3 := fun w1 => impl_within.calls s.f1 0 (wrap64 (a0_1 - s.f2)) _ w1 (impl_within.tot2 _ _ _)
    have hne : ¬ w.heap.size = wr.heap.size := by omega
    obtain ⟨m, hm, hmm⟩ : ∃ m, mn a0_0 a0_1 = m ∧ ((a0_1 < a0_0 ∧ a0_1 = m) ∨ (¬ a0_1 < a0_0 ∧ a0_0 = m)) := ⟨_, rfl, by rcases hmn with ⟨a, b⟩ | ⟨a, b⟩; exact .inl ⟨a, b.symm⟩; exact .inr ⟨a, b.symm⟩⟩
    rw [hm] at HOK
    clear hm hmn
    have hW1 := fun w1 => impl_within.calls s.f2 1 m _ w1 (impl_within.tot2 _ _ _)
    cases hb1 : winB s.f2 1 m with
    | false =>
     rw [hb1] at hW1
     have HQ := As_ (HN1.out (by have := HOK.out; rw [this, hb1]; rfl))
     clear hb1 hW2 hW3 HOK
     rcases hmm with ⟨hm, rfl⟩ | ⟨hm, rfl⟩
     all_goals
      go_wp2_with (go_at_call 46; refine (hW1 _).mono ?_; rintro e w' ⟨rfl, ⟨nq, rfl⟩⟩)
      go_ret
      exact ⟨ret_bool (by rw [HQ.out]), by repeat (first | exact BW.out | apply ba_ | apply bn_)⟩
    | true =>
     rw [hb1] at hW1
     cases hb2 : winB s.f0 0 (wrap64 (a0_0 - s.f2)) with
     | false =>
      rw [hb2] at hW2
      have HQ := As_ (HN1.out (by have := HOK.out; rw [this, hb2]; simp))
      clear hb1 hb2 hW3 HOK
      rcases hmm with ⟨hm, rfl⟩ | ⟨hm, rfl⟩
      all_goals
       go_wp2_with (go_at_call 46; first | ((with_reducible refine (hW1 _).mono ?_); rintro e w' ⟨rfl, ⟨nq, rfl⟩⟩) | ((with_reducible refine (hW2 _).mono ?_); rintro e w' ⟨rfl, ⟨nq, rfl⟩⟩))
       go_ret
       exact ⟨ret_bool (by rw [HQ.out]), by repeat (first | exact BW.out | apply ba_ | apply bn_)⟩
     | true =>
      rw [hb2] at hW2
      cases hb3 : winB s.f1 0 (wrap64 (a0_1 - s.f2)) with
      | false =>
       rw [hb3] at hW3
       have HQ := As_ (HN1.out (by have := HOK.out; rw [this, hb3]; simp))
       clear hb1 hb2 hb3 HOK
       rcases hmm with ⟨hm, rfl⟩ | ⟨hm, rfl⟩
       all_goals
        go_wp2_with (go_at_call 46; first | ((with_reducible refine (hW1 _).mono ?_); rintro e w' ⟨rfl, ⟨nq, rfl⟩⟩) | ((with_reducible refine (hW2 _).mono ?_); rintro e w' ⟨rfl, ⟨nq, rfl⟩⟩) | ((with_reducible refine (hW3 _).mono ?_); rintro e w' ⟨rfl, ⟨nq, rfl⟩⟩))
        go_ret
        exact ⟨ret_bool (by rw [HQ.out]), by repeat (first | exact BW.out | apply ba_ | apply bn_)⟩
      | true =>
       rw [hb3] at hW3
       rw [hb1, hb2, hb3] at HOK
       simp only [Bool.true_and] at HOK
       clear hb1 hb2 hb3
       have hCon : ∀ W, Below w.heap.size w W → (W.heap[wr.heap.size]? = some (.cells #[.int .i64 s.f0, .int .i64 s.f1, .int .i64 s.f2] 87 (0, 0))) → Calls Try.prog 84 #[.slice (some ad) i.toNat c0_2, .func (.func 85) #[] #[.pointer (some ⟨wr.heap.size, 0, none⟩)]] W fun e w' => e = .returned (.bool ((l0_2.take i.toNat).any fun t => impl_IsCut.over s t)) ∧ Below W.heap.size W w' := by
        intro W hb hv
        have h1 := Kd.C_take (m := i.toNat) (show Kd.C k87 W (some ad) l0_2.length l0_2 by rw [← HN.out]; exact Kd.C_below HR2.out hb) (by have := HN.out; omega)
        rw [show (l0_2.take i.toNat).length = i.toNat by rw [List.length_take]; have := HN.out; omega] at h1
        exact containsFunc_Square _ _ _ eg _ _ _ _ _ h1 (by omega) (impl_IsCut.pred s wr.heap.size W hv)
       generalize (l0_2.take i.toNat).any (fun t => impl_IsCut.over s t) = cn at hCon HOK
       have hi1 : i ≤ 30 := by omega
       have hi2 : i.toNat ≤ c0_2 := by have := HC.out; have := HN.out; omega
       have hi3 : i ≤ (c0_2 : Int) := by have := HC.out; have := HN.out; omega
       by_cases hz : i ≤ 0
       ·
        have hgi : decide (i > 0) = false := decide_eq_false (by omega)
        have hgj : decide (0 < i) = false := decide_eq_false (by omega)
        rw [hgj] at HOK
        clear hz
        have F0 := As_ (show (wr.alloc (.cells #[.int .i64 s.f0, .int .i64 s.f1, .int .i64 s.f2] 87)).cell? ⟨w.heap.size, 2, none⟩ = some (.slice (some ad) n c0_2) from ((Below.refl wr.heap.size wr).alloc (Nat.le_refl _) _).cell (World.block_lt_of_cell? _ _ hp2) |>.trans hp2)
        have F1 := As_ (show (wr.alloc (.cells #[.int .i64 s.f0, .int .i64 s.f1, .int .i64 s.f2] 87)).cell? ⟨wr.heap.size, 0, none⟩ = some (.int .i64 s.f0) from (blk_cell (heap_alloc_new wr _) 0).trans rfl)
        have F2 := As_ (show (wr.alloc (.cells #[.int .i64 s.f0, .int .i64 s.f1, .int .i64 s.f2] 87)).cell? ⟨wr.heap.size, 1, none⟩ = some (.int .i64 s.f1) from (blk_cell (heap_alloc_new wr _) 1).trans rfl)
        have F3 := As_ (show (wr.alloc (.cells #[.int .i64 s.f0, .int .i64 s.f1, .int .i64 s.f2] 87)).cell? ⟨wr.heap.size, 2, none⟩ = some (.int .i64 s.f2) from (blk_cell (heap_alloc_new wr _) 2).trans rfl)
        have F4 := As_ (show (wr.alloc (.cells #[.int .i64 s.f0, .int .i64 s.f1, .int .i64 s.f2] 87)).heap[w.heap.size]? = some (.cells #[.int .i64 a0_0, .int .i64 a0_1, .slice (some ad) n c0_2] 31 (0, 0)) from blk_b ((Below.refl wr.heap.size wr).alloc (Nat.le_refl _) _) BK.out)
        have F5 := As_ (show (wr.alloc (.cells #[.int .i64 s.f0, .int .i64 s.f1, .int .i64 s.f2] 87)).heap[wr.heap.size]? = some (.cells #[.int .i64 s.f0, .int .i64 s.f1, .int .i64 s.f2] 87 (0, 0)) from heap_alloc_new wr _)
        have FB := As_ (show Below w.heap.size w (wr.alloc (.cells #[.int .i64 s.f0, .int .i64 s.f1, .int .i64 s.f2] 87)) from BW.out.alloc BW.out.size _)
        rcases hmm with ⟨hm, rfl⟩ | ⟨hm, rfl⟩
        all_goals
         go_wp2_with (go_at_call 46; first | ((with_reducible refine (hW1 _).mono ?_); rintro e w' ⟨rfl, ⟨nq, rfl⟩⟩) | ((with_reducible refine (hW2 _).mono ?_); rintro e w' ⟨rfl, ⟨nq, rfl⟩⟩) | ((with_reducible refine (hW3 _).mono ?_); rintro e w' ⟨rfl, ⟨nq, rfl⟩⟩))
         refine start_ (n := 21) (S := fun w' => w'.cell? ⟨w.heap.size, 2, none⟩ = some (.slice (some ad) n c0_2) ∧ w'.cell? ⟨wr.heap.size, 0, none⟩ = some (.int .i64 s.f0) ∧ w'.cell? ⟨wr.heap.size, 1, none⟩ = some (.int .i64 s.f1) ∧ w'.cell? ⟨wr.heap.size, 2, none⟩ = some (.int .i64 s.f2) ∧ w'.heap[w.heap.size]? = some (.cells #[.int .i64 a0_0, .int .i64 a0_1, .slice (some ad) n c0_2] 31 (0, 0)) ∧ w'.heap[wr.heap.size]? = some (.cells #[.int .i64 s.f0, .int .i64 s.f1, .int .i64 s.f2] 87 (0, 0)) ∧ Below w.heap.size w w') (ds := []) #[false, false, false, false, false, false, false, false, false, false, false, false, false, false, false, false, false, false, false, false, false] (by kernel_rfl) rfl rfl ⟨(show _ from F0.out), (show _ from F1.out), (show _ from F2.out), (show _ from F3.out), (show _ from F4.out), (show _ from F5.out), (by repeat (first | exact FB.out | apply bn_ | apply bd_))⟩ (fun hHeld => ?_)
         refine pu_ (v := ?_) (a' := ?_) 0 (some 61) #[true, false, false, false, false, false, false, false, false, false, false, false, false, false, false, false, false, false, false, false, false] rfl rfl (by kernel_rfl) (fun _ _ _ h => h) (.inl ⟨by rfl, ?_⟩) ?_ ?_; rotate_left
         · intro w'; go_simp; with_reducible rfl
         rotate_left
         · simp only [Act.put, sib_, sc0_, sc1_, i64_w, i32_w]; rfl
         refine pu_ (v := ?_) (a' := ?_) 1 (some 62) #[true, true, false, false, false, false, false, false, false, false, false, false, false, false, false, false, false, false, false, false, false] rfl rfl (by kernel_rfl) (fun _ _ _ h => h) (.inl ⟨by rfl, ?_⟩) ?_ ?_; rotate_left
         · intro w'; go_simp; with_reducible rfl
         rotate_left
         · simp only [Act.put, sib_, sc0_, sc1_, i64_w, i32_w]; rfl
         refine pu_ (v := ?_) (a' := ?_) 2 (some 63) #[true, true, true, false, false, false, false, false, false, false, false, false, false, false, false, false, false, false, false, false, false] rfl rfl (by kernel_rfl) (fun _ _ _ h => h) (.inl ⟨by rfl, ?_⟩) ?_ ?_; rotate_left
         · intro w'; go_simp; with_reducible rfl
         rotate_left
         · simp only [Act.put, sib_, sc0_, sc1_, i64_w, i32_w]; rfl
         refine pure_ (i := 3) (N := some 64) (v := undef) (a' := ?_) #[true, true, true, true, false, false, false, false, false, false, false, false, false, false, false, false, false, false, false, false, false] rfl rfl (by kernel_rfl) (fun _ _ _ h => h) (Or.inr ⟨by rfl, rfl⟩) ?_ ?_; rotate_left
         · simp only [Act.put, sib_, sc0_, sc1_, i64_w, i32_w]; rfl
         refine pure_ (i := 4) (N := some 65) (v := undef) (a' := ?_) #[true, true, true, true, true, false, false, false, false, false, false, false, false, false, false, false, false, false, false, false, false] rfl rfl (by kernel_rfl) (fun _ _ _ h => h) (Or.inr ⟨by rfl, rfl⟩) ?_ ?_; rotate_left
         · simp only [Act.put, sib_, sc0_, sc1_, i64_w, i32_w]; rfl
         refine pure_ (i := 5) (N := some 66) (v := undef) (a' := ?_) #[true, true, true, true, true, true, false, false, false, false, false, false, false, false, false, false, false, false, false, false, false] rfl rfl (by kernel_rfl) (fun _ _ _ h => h) (Or.inr ⟨by rfl, rfl⟩) ?_ ?_; rotate_left
         · simp only [Act.put, sib_, sc0_, sc1_, i64_w, i32_w]; rfl
         refine pure_ (i := 6) (N := some 67) (v := undef) (a' := ?_) #[true, true, true, true, true, true, true, false, false, false, false, false, false, false, false, false, false, false, false, false, false] rfl rfl (by kernel_rfl) (fun _ _ _ h => h) (Or.inr ⟨by rfl, rfl⟩) ?_ ?_; rotate_left
         · simp only [Act.put, sib_, sc0_, sc1_, i64_w, i32_w]; rfl
         refine pure_ (i := 7) (N := some 68) (v := undef) (a' := ?_) #[true, true, true, true, true, true, true, true, false, false, false, false, false, false, false, false, false, false, false, false, false] rfl rfl (by kernel_rfl) (fun _ _ _ h => h) (Or.inr ⟨by rfl, rfl⟩) ?_ ?_; rotate_left
         · simp only [Act.put, sib_, sc0_, sc1_, i64_w, i32_w]; rfl
         refine pure_ (i := 8) (N := some 69) (v := undef) (a' := ?_) #[true, true, true, true, true, true, true, true, true, false, false, false, false, false, false, false, false, false, false, false, false] rfl rfl (by kernel_rfl) (fun _ _ _ h => h) (Or.inr ⟨by rfl, rfl⟩) ?_ ?_; rotate_left
         · simp only [Act.put, sib_, sc0_, sc1_, i64_w, i32_w]; rfl
         refine pure_ (i := 9) (N := some 70) (v := undef) (a' := ?_) #[true, true, true, true, true, true, true, true, true, true, false, false, false, false, false, false, false, false, false, false, false] rfl rfl (by kernel_rfl) (fun _ _ _ h => h) (Or.inr ⟨by rfl, rfl⟩) ?_ ?_; rotate_left
         · simp only [Act.put, sib_, sc0_, sc1_, i64_w, i32_w]; rfl
         refine pure_ (i := 10) (N := some 71) (v := undef) (a' := ?_) #[true, true, true, true, true, true, true, true, true, true, true, false, false, false, false, false, false, false, false, false, false] rfl rfl (by kernel_rfl) (fun _ _ _ h => h) (Or.inr ⟨by rfl, rfl⟩) ?_ ?_; rotate_left
         · simp only [Act.put, sib_, sc0_, sc1_, i64_w, i32_w]; rfl
         refine pure_ (i := 11) (N := some 72) (v := undef) (a' := ?_) #[true, true, true, true, true, true, true, true, true, true, true, true, false, false, false, false, false, false, false, false, false] rfl rfl (by kernel_rfl) (fun _ _ _ h => h) (Or.inr ⟨by rfl, rfl⟩) ?_ ?_; rotate_left
         · simp only [Act.put, sib_, sc0_, sc1_, i64_w, i32_w]; rfl
         refine pu_ (v := ?_) (a' := ?_) 12 (some 73) #[true, true, true, true, true, true, true, true, true, true, true, true, true, false, false, false, false, false, false, false, false] rfl rfl (by kernel_rfl) (fun _ _ _ h => h) (.inl ⟨by rfl, ?_⟩) ?_ ?_; rotate_left
         · intro w'; go_simp; with_reducible rfl
         rotate_left
         · simp only [Act.put, sib_, sc0_, sc1_, i64_w, i32_w]; rfl
         refine pu_ (v := ?_) (a' := ?_) 13 (some 74) #[true, true, true, true, true, true, true, true, true, true, true, true, true, true, false, false, false, false, false, false, false] rfl rfl (by kernel_rfl) (fun _ _ _ h => h) (.inl ⟨by rfl, ?_⟩) ?_ ?_; rotate_left
         · intro w'; go_simp; with_reducible rfl
         rotate_left
         · simp only [Act.put, sib_, sc0_, sc1_, i64_w, i32_w]; rfl
         refine pu_ (v := ?_) (a' := ?_) 14 (some 75) #[true, true, true, true, true, true, true, true, true, true, true, true, true, true, true, false, false, false, false, false, false] rfl rfl (by kernel_rfl) (fun _ _ _ h => h) (.inl ⟨by rfl, ?_⟩) ?_ ?_; rotate_left
         · intro w'; go_simp; with_reducible rfl
         rotate_left
         · simp only [Act.put, sib_, sc0_, sc1_, i64_w, i32_w]; rfl
         refine pu_ (v := ?_) (a' := ?_) 16 (some 77) #[true, true, true, true, true, true, true, true, true, true, true, true, true, true, true, false, true, false, false, false, false] rfl rfl (by kernel_rfl) (fun _ _ _ h => h) (.inl ⟨by rfl, ?_⟩) ?_ ?_; rotate_left
         · intro w'; go_simp; with_reducible rfl
         rotate_left
         · simp only [Act.put, sib_, sc0_, sc1_, i64_w, i32_w]; rfl
         refine pu_ (v := ?_) (a' := ?_) 18 (some 79) #[true, true, true, true, true, true, true, true, true, true, true, true, true, true, true, false, true, false, true, false, false] rfl rfl (by kernel_rfl) (fun _ _ _ h => h) (.inl ⟨by rfl, ?_⟩) ?_ ?_; rotate_left
         · intro w'; go_simp; with_reducible rfl
         rotate_left
         · simp only [Act.put, sib_, sc0_, sc1_, i64_w, i32_w]; rfl
         refine take_ (i := 15) (N := some 76) (v := ?_) (a' := ?_) #[true, true, true, true, true, true, true, true, true, true, true, true, true, true, true, true, true, false, true, false, false] rfl rfl (by kernel_rfl) (fun _ _ _ h => h) (Or.inl ⟨by rfl, ?_⟩) hHeld ?_ ?_; rotate_left
         ·
          rintro w' ⟨s0, s1, s2, s3, s4, s5, s6⟩
          go_simp
          with_reducible rfl
         rotate_left
         · simp only [Act.put, sib_, sc0_, sc1_, i64_w, i32_w]; rfl
         refine pu_ (v := ?_) (a' := ?_) 17 (some 78) #[true, true, true, true, true, true, true, true, true, true, true, true, true, true, true, true, true, true, true, false, false] rfl rfl (by kernel_rfl) (fun _ _ _ h => h) (.inl ⟨by rfl, ?_⟩) ?_ ?_; rotate_left
         · intro w'; go_simp; with_reducible rfl
         rotate_left
         · simp only [Act.put, sib_, sc0_, sc1_, i64_w, i32_w]; rfl
         refine one_ (i := 19) (N := some 80) #[true, true, true, true, true, true, true, true, true, true, true, true, true, true, true, true, true, true, true, true, false] rfl rfl (by kernel_rfl) (by decide) (fun K hK => ?_)
         refine goes_ Try.func84 (by kernel_rfl) rfl #[.slice (some ad) i.toNat c0_2, .func (.func 85) #[] #[.pointer (some ⟨wr.heap.size, 0, none⟩)]] (by rfl) rfl rfl (by simp only [List.map_toArray, List.map_cons, List.map_nil]; rfl) ?_
         with_reducible refine (hCon _ hHeld.2.2.2.2.2.2 hHeld.2.2.2.2.2.1).mono ?_
         rintro e w3 ⟨rfl, hb⟩
         refine ⟨_, rfl, ?_⟩
         refine hK.out _ _ ⟨(hb.cell (World.block_lt_of_cell? _ _ hHeld.1)).trans hHeld.1, (hb.cell (World.block_lt_of_cell? _ _ hHeld.2.1)).trans hHeld.2.1, (hb.cell (World.block_lt_of_cell? _ _ hHeld.2.2.1)).trans hHeld.2.2.1, (hb.cell (World.block_lt_of_cell? _ _ hHeld.2.2.2.1)).trans hHeld.2.2.2.1, blk_b hb hHeld.2.2.2.2.1, blk_b hb hHeld.2.2.2.2.2.1, below_step hHeld.2.2.2.2.2.2 hb⟩ (fun hHeld => ?_); clear hK K
         refine norm_ (a' := ?_) ?_ ?_; rotate_left
         ·
          show Act.put _ (some 80) _ = _
          simp only [Act.put, sib_, sc0_, sc1_, i64_w, i32_w]
          rfl
         refine pu_ (v := ?_) (a' := ?_) 20 (some 81) #[true, true, true, true, true, true, true, true, true, true, true, true, true, true, true, true, true, true, true, true, true] rfl rfl (by kernel_rfl) (fun _ _ _ h => h) (.inl ⟨by rfl, ?_⟩) ?_ ?_; rotate_left
         · intro w'; go_simp; with_reducible rfl
         rotate_left
         · simp only [Act.put, sib_, sc0_, sc1_, i64_w, i32_w]; rfl
         refine done_ (by kernel_rfl) ?_
         have HREL := As_ hHeld
         have hcs2 := HREL.out.2.2.2.1
         clear hHeld hCon
         cases cn with
         | true =>
          have HQ := As_ (HN1.out (by have := HOK.out; rw [this]; simp))
          clear HOK HAR HS
          go_wp2
          go_ret
          exact ⟨ret_bool (by rw [HQ.out]), HREL.out.2.2.2.2.2.2⟩
         | false =>
          simp only [Bool.false_and, Bool.not_false, Bool.true_and] at HOK
          go_wp2
          go_roundg (n - (i + 1).toNat)
          case measure => have := hg.out; omega
          case rel =>
           refine ⟨i + 1, by omega, by omega, ⟨by omega⟩, by go_num, ?_, ⟨HREL.out.2.2.2.2.2.2⟩, ⟨HREL.out.2.2.2.2.1⟩, ⟨fun j hj0 hj => ?_⟩⟩
           · rw [show (i + 1).toNat = i.toNat + 1 by omega, impl_IsCut.area, ← HAR.out, show ((i.toNat : Nat) : Int) = i by omega, ← HS.out]
           ·
            by_cases e : j = i
            · subst e; rw [HOK.out]
            · exact AA.out j hj0 (by omega)
       ·
        have hgi : decide (i > 0) = true := decide_eq_true (by omega)
        have hgj : decide (0 < i) = true := decide_eq_true (by omega)
        have hi4 : 0 ≤ i - 1 := by omega
        have hi5 : i - 1 < n := by omega
        have hi6 : 1 ≤ i := by omega
        rw [hgj] at HOK
        clear hz
        obtain ⟨ad', ea, hq4, hq5, hq6⟩ := at_T87 HR2.out (i - 1) hi4 hi5
        cases ea
        rw [show (i - 1).toNat = i.toNat - 1 by omega] at hq4 hq5 hq6
        replace hq4 := (BW.out.cell (World.block_lt_of_cell? w _ hq4)).trans hq4
        replace hq5 := (BW.out.cell (World.block_lt_of_cell? w _ hq5)).trans hq5
        replace hq6 := (BW.out.cell (World.block_lt_of_cell? w _ hq6)).trans hq6
        generalize rd_T87 l0_2 (i - 1) = p at hq4 hq5 hq6 HOK
        have hCmp := fun w1 => impl_comparePlaces.calls p.f0 p.f1 p.f2 s.f0 s.f1 s.f2 _ w1 (impl_IsCut.cmp_some p s)
        obtain ⟨cv, hcv⟩ : ∃ cv, cv = impl_IsCut.cmp p s := ⟨_, rfl⟩
        rw [← hcv] at HOK hCmp
        clear hcv
        by_cases hge : 0 ≤ cv
        ·
         rw [decide_eq_true hge] at HOK
         have HQ := As_ (HN1.out (by have := HOK.out; rw [this]; simp))
         have hge1 : decide (cv ≥ 0) = true := decide_eq_true hge
         clear HOK HAR HS hge
         have F0 := As_ (show (wr.alloc (.cells #[.int .i64 s.f0, .int .i64 s.f1, .int .i64 s.f2] 87)).cell? ⟨w.heap.size, 2, none⟩ = some (.slice (some ad) n c0_2) from ((Below.refl wr.heap.size wr).alloc (Nat.le_refl _) _).cell (World.block_lt_of_cell? _ _ hp2) |>.trans hp2)
         have F1 := As_ (show (wr.alloc (.cells #[.int .i64 s.f0, .int .i64 s.f1, .int .i64 s.f2] 87)).cell? ⟨wr.heap.size, 0, none⟩ = some (.int .i64 s.f0) from (blk_cell (heap_alloc_new wr _) 0).trans rfl)
         have F2 := As_ (show (wr.alloc (.cells #[.int .i64 s.f0, .int .i64 s.f1, .int .i64 s.f2] 87)).cell? ⟨wr.heap.size, 1, none⟩ = some (.int .i64 s.f1) from (blk_cell (heap_alloc_new wr _) 1).trans rfl)
         have F3 := As_ (show (wr.alloc (.cells #[.int .i64 s.f0, .int .i64 s.f1, .int .i64 s.f2] 87)).cell? ⟨wr.heap.size, 2, none⟩ = some (.int .i64 s.f2) from (blk_cell (heap_alloc_new wr _) 2).trans rfl)
         have F4 := As_ (show (wr.alloc (.cells #[.int .i64 s.f0, .int .i64 s.f1, .int .i64 s.f2] 87)).cell? (ad.add ((i.toNat - 1) * 3)) = some (.int .i64 p.f0) from ((Below.refl wr.heap.size wr).alloc (Nat.le_refl _) _).cell (World.block_lt_of_cell? _ _ hq4) |>.trans hq4)
         have F5 := As_ (show (wr.alloc (.cells #[.int .i64 s.f0, .int .i64 s.f1, .int .i64 s.f2] 87)).cell? ⟨(ad.add ((i.toNat - 1) * 3)).block, (ad.add ((i.toNat - 1) * 3)).off + 1, none⟩ = some (.int .i64 p.f1) from ((Below.refl wr.heap.size wr).alloc (Nat.le_refl _) _).cell (World.block_lt_of_cell? _ _ hq5) |>.trans hq5)
         have F6 := As_ (show (wr.alloc (.cells #[.int .i64 s.f0, .int .i64 s.f1, .int .i64 s.f2] 87)).cell? ⟨(ad.add ((i.toNat - 1) * 3)).block, (ad.add ((i.toNat - 1) * 3)).off + 2, none⟩ = some (.int .i64 p.f2) from ((Below.refl wr.heap.size wr).alloc (Nat.le_refl _) _).cell (World.block_lt_of_cell? _ _ hq6) |>.trans hq6)
         have F7 := As_ (show (wr.alloc (.cells #[.int .i64 s.f0, .int .i64 s.f1, .int .i64 s.f2] 87)).heap[w.heap.size]? = some (.cells #[.int .i64 a0_0, .int .i64 a0_1, .slice (some ad) n c0_2] 31 (0, 0)) from blk_b ((Below.refl wr.heap.size wr).alloc (Nat.le_refl _) _) BK.out)
         have F8 := As_ (show (wr.alloc (.cells #[.int .i64 s.f0, .int .i64 s.f1, .int .i64 s.f2] 87)).heap[wr.heap.size]? = some (.cells #[.int .i64 s.f0, .int .i64 s.f1, .int .i64 s.f2] 87 (0, 0)) from heap_alloc_new wr _)
         have FB := As_ (show Below w.heap.size w (wr.alloc (.cells #[.int .i64 s.f0, .int .i64 s.f1, .int .i64 s.f2] 87)) from BW.out.alloc BW.out.size _)
         rcases hmm with ⟨hm, rfl⟩ | ⟨hm, rfl⟩
         all_goals
          go_wp2_with (go_at_call 46; first | ((with_reducible refine (hW1 _).mono ?_); rintro e w' ⟨rfl, ⟨nq, rfl⟩⟩) | ((with_reducible refine (hW2 _).mono ?_); rintro e w' ⟨rfl, ⟨nq, rfl⟩⟩) | ((with_reducible refine (hW3 _).mono ?_); rintro e w' ⟨rfl, ⟨nq, rfl⟩⟩))
          have hw1 : wrap64 (i - 1) = i - 1 := by unfold wrap64; omega
          refine start_ (n := 21) (S := fun w' => w'.cell? ⟨w.heap.size, 2, none⟩ = some (.slice (some ad) n c0_2) ∧ w'.cell? ⟨wr.heap.size, 0, none⟩ = some (.int .i64 s.f0) ∧ w'.cell? ⟨wr.heap.size, 1, none⟩ = some (.int .i64 s.f1) ∧ w'.cell? ⟨wr.heap.size, 2, none⟩ = some (.int .i64 s.f2) ∧ w'.cell? (ad.add ((i.toNat - 1) * 3)) = some (.int .i64 p.f0) ∧ w'.cell? ⟨(ad.add ((i.toNat - 1) * 3)).block, (ad.add ((i.toNat - 1) * 3)).off + 1, none⟩ = some (.int .i64 p.f1) ∧ w'.cell? ⟨(ad.add ((i.toNat - 1) * 3)).block, (ad.add ((i.toNat - 1) * 3)).off + 2, none⟩ = some (.int .i64 p.f2) ∧ w'.heap[w.heap.size]? = some (.cells #[.int .i64 a0_0, .int .i64 a0_1, .slice (some ad) n c0_2] 31 (0, 0)) ∧ w'.heap[wr.heap.size]? = some (.cells #[.int .i64 s.f0, .int .i64 s.f1, .int .i64 s.f2] 87 (0, 0)) ∧ Below w.heap.size w w') (ds := []) #[false, false, false, false, false, false, false, false, false, false, false, false, false, false, false, false, false, false, false, false, false] (by kernel_rfl) rfl rfl ⟨(show _ from F0.out), (show _ from F1.out), (show _ from F2.out), (show _ from F3.out), (show _ from F4.out), (show _ from F5.out), (show _ from F6.out), (show _ from F7.out), (show _ from F8.out), (by repeat (first | exact FB.out | apply bn_ | apply bd_))⟩ (fun hHeld => ?_)
          refine pu_ (v := ?_) (a' := ?_) 0 (some 61) #[true, false, false, false, false, false, false, false, false, false, false, false, false, false, false, false, false, false, false, false, false] rfl rfl (by kernel_rfl) (fun _ _ _ h => h) (.inl ⟨by rfl, ?_⟩) ?_ ?_; rotate_left
          · intro w'; go_simp; with_reducible rfl
          rotate_left
          · simp only [Act.put, sib_, sc0_, sc1_, i64_w, i32_w]; rfl
          refine pu_ (v := ?_) (a' := ?_) 1 (some 62) #[true, true, false, false, false, false, false, false, false, false, false, false, false, false, false, false, false, false, false, false, false] rfl rfl (by kernel_rfl) (fun _ _ _ h => h) (.inl ⟨by rfl, ?_⟩) ?_ ?_; rotate_left
          · intro w'; go_simp; with_reducible rfl
          rotate_left
          · simp only [Act.put, sib_, sc0_, sc1_, i64_w, i32_w]; rfl
          refine pu_ (v := ?_) (a' := ?_) 2 (some 63) #[true, true, true, false, false, false, false, false, false, false, false, false, false, false, false, false, false, false, false, false, false] rfl rfl (by kernel_rfl) (fun _ _ _ h => h) (.inl ⟨by rfl, ?_⟩) ?_ ?_; rotate_left
          · intro w'; go_simp; with_reducible rfl
          rotate_left
          · simp only [Act.put, sib_, sc0_, sc1_, i64_w, i32_w]; rfl
          refine pu_ (v := ?_) (a' := ?_) 3 (some 64) #[true, true, true, true, false, false, false, false, false, false, false, false, false, false, false, false, false, false, false, false, false] rfl rfl (by kernel_rfl) (fun _ _ _ h => h) (.inl ⟨by rfl, ?_⟩) ?_ ?_; rotate_left
          · intro w'; go_simp; with_reducible rfl
          rotate_left
          · simp only [Act.put, sib_, sc0_, sc1_, i64_w, i32_w]; rfl
          refine pu_ (v := ?_) (a' := ?_) 5 (some 66) #[true, true, true, true, false, true, false, false, false, false, false, false, false, false, false, false, false, false, false, false, false] rfl rfl (by kernel_rfl) (fun _ _ _ h => h) (.inl ⟨by rfl, ?_⟩) ?_ ?_; rotate_left
          · intro w'; go_simp; with_reducible rfl
          rotate_left
          · simp only [Act.put, sib_, sc0_, sc1_, i64_w, i32_w]; rfl
          refine pu_ (v := ?_) (a' := ?_) 6 (some 67) #[true, true, true, true, false, true, true, false, false, false, false, false, false, false, false, false, false, false, false, false, false] rfl rfl (by kernel_rfl) (fun _ _ _ h => h) (.inl ⟨by rfl, ?_⟩) ?_ ?_; rotate_left
          · intro w'; go_simp; with_reducible rfl
          rotate_left
          · simp only [Act.put, sib_, sc0_, sc1_, i64_w, i32_w]; rfl
          refine take_ (i := 4) (N := some 65) (v := ?_) (a' := ?_) #[true, true, true, true, true, true, true, false, false, false, false, false, false, false, false, false, false, false, false, false, false] rfl rfl (by kernel_rfl) (fun _ _ _ h => h) (Or.inl ⟨by rfl, ?_⟩) hHeld ?_ ?_; rotate_left
          ·
           rintro w' ⟨s0, s1, s2, s3, s4, s5, s6, s7, s8, s9⟩
           go_simp
           with_reducible rfl
          rotate_left
          · simp only [Act.put, sib_, sc0_, sc1_, i64_w, i32_w]; rfl
          refine pu_ (v := ?_) (a' := ?_) 7 (some 68) #[true, true, true, true, true, true, true, true, false, false, false, false, false, false, false, false, false, false, false, false, false] rfl rfl (by kernel_rfl) (fun _ _ _ h => h) (.inl ⟨by rfl, ?_⟩) ?_ ?_; rotate_left
          · intro w'; go_simp; with_reducible rfl
          rotate_left
          · simp only [Act.put, sib_, sc0_, sc1_, i64_w, i32_w]; rfl
          refine take_ (i := 8) (N := some 69) (v := ?_) (a' := ?_) #[true, true, true, true, true, true, true, true, true, false, false, false, false, false, false, false, false, false, false, false, false] rfl rfl (by kernel_rfl) (fun _ _ _ h => h) (Or.inl ⟨by rfl, ?_⟩) hHeld ?_ ?_; rotate_left
          ·
           rintro w' ⟨s0, s1, s2, s3, s4, s5, s6, s7, s8, s9⟩
           go_simp
           with_reducible rfl
          rotate_left
          · simp only [Act.put, sib_, sc0_, sc1_, i64_w, i32_w]; rfl
          refine take_ (i := 9) (N := some 70) (v := ?_) (a' := ?_) #[true, true, true, true, true, true, true, true, true, true, false, false, false, false, false, false, false, false, false, false, false] rfl rfl (by kernel_rfl) (fun _ _ _ h => h) (Or.inl ⟨by rfl, ?_⟩) hHeld ?_ ?_; rotate_left
          ·
           rintro w' ⟨s0, s1, s2, s3, s4, s5, s6, s7, s8, s9⟩
           go_simp
           with_reducible rfl
          rotate_left
          · simp only [Act.put, sib_, sc0_, sc1_, i64_w, i32_w]; rfl
          refine one_ (i := 10) (N := some 71) #[true, true, true, true, true, true, true, true, true, true, true, false, false, false, false, false, false, false, false, false, false] rfl rfl (by kernel_rfl) (by decide) (fun K hK => ?_)
          refine goes_ Try.func83 (by kernel_rfl) rfl #[.agg #[.int .i64 p.f0, .int .i64 p.f1, .int .i64 p.f2], .agg #[.int .i64 s.f0, .int .i64 s.f1, .int .i64 s.f2]] (by rfl) rfl rfl (by simp only [List.map_toArray, List.map_cons, List.map_nil]; rfl) ?_
          with_reducible refine (hCmp _).mono ?_
          rintro e w3 ⟨rfl, hb⟩
          refine ⟨_, rfl, ?_⟩
          refine hK.out _ _ ⟨(hb.cell (World.block_lt_of_cell? _ _ hHeld.1)).trans hHeld.1, (hb.cell (World.block_lt_of_cell? _ _ hHeld.2.1)).trans hHeld.2.1, (hb.cell (World.block_lt_of_cell? _ _ hHeld.2.2.1)).trans hHeld.2.2.1, (hb.cell (World.block_lt_of_cell? _ _ hHeld.2.2.2.1)).trans hHeld.2.2.2.1, (hb.cell (World.block_lt_of_cell? _ _ hHeld.2.2.2.2.1)).trans hHeld.2.2.2.2.1, (hb.cell (World.block_lt_of_cell? _ _ hHeld.2.2.2.2.2.1)).trans hHeld.2.2.2.2.2.1, (hb.cell (World.block_lt_of_cell? _ _ hHeld.2.2.2.2.2.2.1)).trans hHeld.2.2.2.2.2.2.1, blk_b hb hHeld.2.2.2.2.2.2.2.1, blk_b hb hHeld.2.2.2.2.2.2.2.2.1, below_step hHeld.2.2.2.2.2.2.2.2.2 hb⟩ (fun hHeld => ?_); clear hK K
          refine norm_ (a' := ?_) ?_ ?_; rotate_left
          ·
           show Act.put _ (some 71) _ = _
           simp only [Act.put, sib_, sc0_, sc1_, i64_w, i32_w]
           rfl
          refine pu_ (v := ?_) (a' := ?_) 11 (some 72) #[true, true, true, true, true, true, true, true, true, true, true, true, false, false, false, false, false, false, false, false, false] rfl rfl (by kernel_rfl) (fun _ _ _ h => h) (.inl ⟨by rfl, ?_⟩) ?_ ?_; rotate_left
          · intro w'; go_simp; with_reducible rfl
          rotate_left
          · simp only [Act.put, sib_, sc0_, sc1_, i64_w, i32_w]; rfl
          refine pu_ (v := ?_) (a' := ?_) 12 (some 73) #[true, true, true, true, true, true, true, true, true, true, true, true, true, false, false, false, false, false, false, false, false] rfl rfl (by kernel_rfl) (fun _ _ _ h => h) (.inl ⟨by rfl, ?_⟩) ?_ ?_; rotate_left
          · intro w'; go_simp; with_reducible rfl
          rotate_left
          · simp only [Act.put, sib_, sc0_, sc1_, i64_w, i32_w]; rfl
          refine pu_ (v := ?_) (a' := ?_) 13 (some 74) #[true, true, true, true, true, true, true, true, true, true, true, true, true, true, false, false, false, false, false, false, false] rfl rfl (by kernel_rfl) (fun _ _ _ h => h) (.inl ⟨by rfl, ?_⟩) ?_ ?_; rotate_left
          · intro w'; go_simp; with_reducible rfl
          rotate_left
          · simp only [Act.put, sib_, sc0_, sc1_, i64_w, i32_w]; rfl
          refine pure_ (i := 14) (N := some 75) (v := undef) (a' := ?_) #[true, true, true, true, true, true, true, true, true, true, true, true, true, true, true, false, false, false, false, false, false] rfl rfl (by kernel_rfl) (fun _ _ _ h => h) (Or.inr ⟨by rfl, rfl⟩) ?_ ?_; rotate_left
          · simp only [Act.put, sib_, sc0_, sc1_, i64_w, i32_w]; rfl
          refine pure_ (i := 15) (N := some 76) (v := undef) (a' := ?_) #[true, true, true, true, true, true, true, true, true, true, true, true, true, true, true, true, false, false, false, false, false] rfl rfl (by kernel_rfl) (fun _ _ _ h => h) (Or.inr ⟨by rfl, rfl⟩) ?_ ?_; rotate_left
          · simp only [Act.put, sib_, sc0_, sc1_, i64_w, i32_w]; rfl
          refine pure_ (i := 16) (N := some 77) (v := undef) (a' := ?_) #[true, true, true, true, true, true, true, true, true, true, true, true, true, true, true, true, true, false, false, false, false] rfl rfl (by kernel_rfl) (fun _ _ _ h => h) (Or.inr ⟨by rfl, rfl⟩) ?_ ?_; rotate_left
          · simp only [Act.put, sib_, sc0_, sc1_, i64_w, i32_w]; rfl
          refine pure_ (i := 17) (N := some 78) (v := undef) (a' := ?_) #[true, true, true, true, true, true, true, true, true, true, true, true, true, true, true, true, true, true, false, false, false] rfl rfl (by kernel_rfl) (fun _ _ _ h => h) (Or.inr ⟨by rfl, rfl⟩) ?_ ?_; rotate_left
          · simp only [Act.put, sib_, sc0_, sc1_, i64_w, i32_w]; rfl
          refine pure_ (i := 18) (N := some 79) (v := undef) (a' := ?_) #[true, true, true, true, true, true, true, true, true, true, true, true, true, true, true, true, true, true, true, false, false] rfl rfl (by kernel_rfl) (fun _ _ _ h => h) (Or.inr ⟨by rfl, rfl⟩) ?_ ?_; rotate_left
          · simp only [Act.put, sib_, sc0_, sc1_, i64_w, i32_w]; rfl
          refine pure_ (i := 19) (N := some 80) (v := undef) (a' := ?_) #[true, true, true, true, true, true, true, true, true, true, true, true, true, true, true, true, true, true, true, true, false] rfl rfl (by kernel_rfl) (fun _ _ _ h => h) (Or.inr ⟨by rfl, rfl⟩) ?_ ?_; rotate_left
          · simp only [Act.put, sib_, sc0_, sc1_, i64_w, i32_w]; rfl
          refine pu_ (v := ?_) (a' := ?_) 20 (some 81) #[true, true, true, true, true, true, true, true, true, true, true, true, true, true, true, true, true, true, true, true, true] rfl rfl (by kernel_rfl) (fun _ _ _ h => h) (.inl ⟨by rfl, ?_⟩) ?_ ?_; rotate_left
          · intro w'; go_simp; with_reducible rfl
          rotate_left
          · simp only [Act.put, sib_, sc0_, sc1_, i64_w, i32_w]; rfl
          refine done_ (by kernel_rfl) ?_; clear hw1
          go_wp2
          go_ret
          exact ⟨ret_bool (by rw [HQ.out]), hHeld.2.2.2.2.2.2.2.2.2⟩
        ·
         rw [decide_eq_false hge] at HOK
         have hge1 : decide (cv ≥ 0) = false := decide_eq_false hge
         clear hge
         have F0 := As_ (show (wr.alloc (.cells #[.int .i64 s.f0, .int .i64 s.f1, .int .i64 s.f2] 87)).cell? ⟨w.heap.size, 2, none⟩ = some (.slice (some ad) n c0_2) from ((Below.refl wr.heap.size wr).alloc (Nat.le_refl _) _).cell (World.block_lt_of_cell? _ _ hp2) |>.trans hp2)
         have F1 := As_ (show (wr.alloc (.cells #[.int .i64 s.f0, .int .i64 s.f1, .int .i64 s.f2] 87)).cell? ⟨wr.heap.size, 0, none⟩ = some (.int .i64 s.f0) from (blk_cell (heap_alloc_new wr _) 0).trans rfl)
         have F2 := As_ (show (wr.alloc (.cells #[.int .i64 s.f0, .int .i64 s.f1, .int .i64 s.f2] 87)).cell? ⟨wr.heap.size, 1, none⟩ = some (.int .i64 s.f1) from (blk_cell (heap_alloc_new wr _) 1).trans rfl)
         have F3 := As_ (show (wr.alloc (.cells #[.int .i64 s.f0, .int .i64 s.f1, .int .i64 s.f2] 87)).cell? ⟨wr.heap.size, 2, none⟩ = some (.int .i64 s.f2) from (blk_cell (heap_alloc_new wr _) 2).trans rfl)
         have F4 := As_ (show (wr.alloc (.cells #[.int .i64 s.f0, .int .i64 s.f1, .int .i64 s.f2] 87)).cell? (ad.add ((i.toNat - 1) * 3)) = some (.int .i64 p.f0) from ((Below.refl wr.heap.size wr).alloc (Nat.le_refl _) _).cell (World.block_lt_of_cell? _ _ hq4) |>.trans hq4)
         have F5 := As_ (show (wr.alloc (.cells #[.int .i64 s.f0, .int .i64 s.f1, .int .i64 s.f2] 87)).cell? ⟨(ad.add ((i.toNat - 1) * 3)).block, (ad.add ((i.toNat - 1) * 3)).off + 1, none⟩ = some (.int .i64 p.f1) from ((Below.refl wr.heap.size wr).alloc (Nat.le_refl _) _).cell (World.block_lt_of_cell? _ _ hq5) |>.trans hq5)
         have F6 := As_ (show (wr.alloc (.cells #[.int .i64 s.f0, .int .i64 s.f1, .int .i64 s.f2] 87)).cell? ⟨(ad.add ((i.toNat - 1) * 3)).block, (ad.add ((i.toNat - 1) * 3)).off + 2, none⟩ = some (.int .i64 p.f2) from ((Below.refl wr.heap.size wr).alloc (Nat.le_refl _) _).cell (World.block_lt_of_cell? _ _ hq6) |>.trans hq6)
         have F7 := As_ (show (wr.alloc (.cells #[.int .i64 s.f0, .int .i64 s.f1, .int .i64 s.f2] 87)).heap[w.heap.size]? = some (.cells #[.int .i64 a0_0, .int .i64 a0_1, .slice (some ad) n c0_2] 31 (0, 0)) from blk_b ((Below.refl wr.heap.size wr).alloc (Nat.le_refl _) _) BK.out)
         have F8 := As_ (show (wr.alloc (.cells #[.int .i64 s.f0, .int .i64 s.f1, .int .i64 s.f2] 87)).heap[wr.heap.size]? = some (.cells #[.int .i64 s.f0, .int .i64 s.f1, .int .i64 s.f2] 87 (0, 0)) from heap_alloc_new wr _)
         have FB := As_ (show Below w.heap.size w (wr.alloc (.cells #[.int .i64 s.f0, .int .i64 s.f1, .int .i64 s.f2] 87)) from BW.out.alloc BW.out.size _)
         rcases hmm with ⟨hm, rfl⟩ | ⟨hm, rfl⟩
         all_goals
          go_wp2_with (go_at_call 46; first | ((with_reducible refine (hW1 _).mono ?_); rintro e w' ⟨rfl, ⟨nq, rfl⟩⟩) | ((with_reducible refine (hW2 _).mono ?_); rintro e w' ⟨rfl, ⟨nq, rfl⟩⟩) | ((with_reducible refine (hW3 _).mono ?_); rintro e w' ⟨rfl, ⟨nq, rfl⟩⟩))
          have hw1 : wrap64 (i - 1) = i - 1 := by unfold wrap64; omega
          refine start_ (n := 21) (S := fun w' => w'.cell? ⟨w.heap.size, 2, none⟩ = some (.slice (some ad) n c0_2) ∧ w'.cell? ⟨wr.heap.size, 0, none⟩ = some (.int .i64 s.f0) ∧ w'.cell? ⟨wr.heap.size, 1, none⟩ = some (.int .i64 s.f1) ∧ w'.cell? ⟨wr.heap.size, 2, none⟩ = some (.int .i64 s.f2) ∧ w'.cell? (ad.add ((i.toNat - 1) * 3)) = some (.int .i64 p.f0) ∧ w'.cell? ⟨(ad.add ((i.toNat - 1) * 3)).block, (ad.add ((i.toNat - 1) * 3)).off + 1, none⟩ = some (.int .i64 p.f1) ∧ w'.cell? ⟨(ad.add ((i.toNat - 1) * 3)).block, (ad.add ((i.toNat - 1) * 3)).off + 2, none⟩ = some (.int .i64 p.f2) ∧ w'.heap[w.heap.size]? = some (.cells #[.int .i64 a0_0, .int .i64 a0_1, .slice (some ad) n c0_2] 31 (0, 0)) ∧ w'.heap[wr.heap.size]? = some (.cells #[.int .i64 s.f0, .int .i64 s.f1, .int .i64 s.f2] 87 (0, 0)) ∧ Below w.heap.size w w') (ds := []) #[false, false, false, false, false, false, false, false, false, false, false, false, false, false, false, false, false, false, false, false, false] (by kernel_rfl) rfl rfl ⟨(show _ from F0.out), (show _ from F1.out), (show _ from F2.out), (show _ from F3.out), (show _ from F4.out), (show _ from F5.out), (show _ from F6.out), (show _ from F7.out), (show _ from F8.out), (by repeat (first | exact FB.out | apply bn_ | apply bd_))⟩ (fun hHeld => ?_)
          refine pu_ (v := ?_) (a' := ?_) 0 (some 61) #[true, false, false, false, false, false, false, false, false, false, false, false, false, false, false, false, false, false, false, false, false] rfl rfl (by kernel_rfl) (fun _ _ _ h => h) (.inl ⟨by rfl, ?_⟩) ?_ ?_; rotate_left
          · intro w'; go_simp; with_reducible rfl
          rotate_left
          · simp only [Act.put, sib_, sc0_, sc1_, i64_w, i32_w]; rfl
          refine pu_ (v := ?_) (a' := ?_) 1 (some 62) #[true, true, false, false, false, false, false, false, false, false, false, false, false, false, false, false, false, false, false, false, false] rfl rfl (by kernel_rfl) (fun _ _ _ h => h) (.inl ⟨by rfl, ?_⟩) ?_ ?_; rotate_left
          · intro w'; go_simp; with_reducible rfl
          rotate_left
          · simp only [Act.put, sib_, sc0_, sc1_, i64_w, i32_w]; rfl
          refine pu_ (v := ?_) (a' := ?_) 2 (some 63) #[true, true, true, false, false, false, false, false, false, false, false, false, false, false, false, false, false, false, false, false, false] rfl rfl (by kernel_rfl) (fun _ _ _ h => h) (.inl ⟨by rfl, ?_⟩) ?_ ?_; rotate_left
          · intro w'; go_simp; with_reducible rfl
          rotate_left
          · simp only [Act.put, sib_, sc0_, sc1_, i64_w, i32_w]; rfl
          refine pu_ (v := ?_) (a' := ?_) 3 (some 64) #[true, true, true, true, false, false, false, false, false, false, false, false, false, false, false, false, false, false, false, false, false] rfl rfl (by kernel_rfl) (fun _ _ _ h => h) (.inl ⟨by rfl, ?_⟩) ?_ ?_; rotate_left
          · intro w'; go_simp; with_reducible rfl
          rotate_left
          · simp only [Act.put, sib_, sc0_, sc1_, i64_w, i32_w]; rfl
          refine pu_ (v := ?_) (a' := ?_) 5 (some 66) #[true, true, true, true, false, true, false, false, false, false, false, false, false, false, false, false, false, false, false, false, false] rfl rfl (by kernel_rfl) (fun _ _ _ h => h) (.inl ⟨by rfl, ?_⟩) ?_ ?_; rotate_left
          · intro w'; go_simp; with_reducible rfl
          rotate_left
          · simp only [Act.put, sib_, sc0_, sc1_, i64_w, i32_w]; rfl
          refine pu_ (v := ?_) (a' := ?_) 6 (some 67) #[true, true, true, true, false, true, true, false, false, false, false, false, false, false, false, false, false, false, false, false, false] rfl rfl (by kernel_rfl) (fun _ _ _ h => h) (.inl ⟨by rfl, ?_⟩) ?_ ?_; rotate_left
          · intro w'; go_simp; with_reducible rfl
          rotate_left
          · simp only [Act.put, sib_, sc0_, sc1_, i64_w, i32_w]; rfl
          refine take_ (i := 4) (N := some 65) (v := ?_) (a' := ?_) #[true, true, true, true, true, true, true, false, false, false, false, false, false, false, false, false, false, false, false, false, false] rfl rfl (by kernel_rfl) (fun _ _ _ h => h) (Or.inl ⟨by rfl, ?_⟩) hHeld ?_ ?_; rotate_left
          ·
           rintro w' ⟨s0, s1, s2, s3, s4, s5, s6, s7, s8, s9⟩
           go_simp
           with_reducible rfl
          rotate_left
          · simp only [Act.put, sib_, sc0_, sc1_, i64_w, i32_w]; rfl
          refine pu_ (v := ?_) (a' := ?_) 7 (some 68) #[true, true, true, true, true, true, true, true, false, false, false, false, false, false, false, false, false, false, false, false, false] rfl rfl (by kernel_rfl) (fun _ _ _ h => h) (.inl ⟨by rfl, ?_⟩) ?_ ?_; rotate_left
          · intro w'; go_simp; with_reducible rfl
          rotate_left
          · simp only [Act.put, sib_, sc0_, sc1_, i64_w, i32_w]; rfl
          refine take_ (i := 8) (N := some 69) (v := ?_) (a' := ?_) #[true, true, true, true, true, true, true, true, true, false, false, false, false, false, false, false, false, false, false, false, false] rfl rfl (by kernel_rfl) (fun _ _ _ h => h) (Or.inl ⟨by rfl, ?_⟩) hHeld ?_ ?_; rotate_left
          ·
           rintro w' ⟨s0, s1, s2, s3, s4, s5, s6, s7, s8, s9⟩
           go_simp
           with_reducible rfl
          rotate_left
          · simp only [Act.put, sib_, sc0_, sc1_, i64_w, i32_w]; rfl
          refine take_ (i := 9) (N := some 70) (v := ?_) (a' := ?_) #[true, true, true, true, true, true, true, true, true, true, false, false, false, false, false, false, false, false, false, false, false] rfl rfl (by kernel_rfl) (fun _ _ _ h => h) (Or.inl ⟨by rfl, ?_⟩) hHeld ?_ ?_; rotate_left
          ·
           rintro w' ⟨s0, s1, s2, s3, s4, s5, s6, s7, s8, s9⟩
           go_simp
           with_reducible rfl
          rotate_left
          · simp only [Act.put, sib_, sc0_, sc1_, i64_w, i32_w]; rfl
          refine one_ (i := 10) (N := some 71) #[true, true, true, true, true, true, true, true, true, true, true, false, false, false, false, false, false, false, false, false, false] rfl rfl (by kernel_rfl) (by decide) (fun K hK => ?_)
          refine goes_ Try.func83 (by kernel_rfl) rfl #[.agg #[.int .i64 p.f0, .int .i64 p.f1, .int .i64 p.f2], .agg #[.int .i64 s.f0, .int .i64 s.f1, .int .i64 s.f2]] (by rfl) rfl rfl (by simp only [List.map_toArray, List.map_cons, List.map_nil]; rfl) ?_
          with_reducible refine (hCmp _).mono ?_
          rintro e w3 ⟨rfl, hb⟩
          refine ⟨_, rfl, ?_⟩
          refine hK.out _ _ ⟨(hb.cell (World.block_lt_of_cell? _ _ hHeld.1)).trans hHeld.1, (hb.cell (World.block_lt_of_cell? _ _ hHeld.2.1)).trans hHeld.2.1, (hb.cell (World.block_lt_of_cell? _ _ hHeld.2.2.1)).trans hHeld.2.2.1, (hb.cell (World.block_lt_of_cell? _ _ hHeld.2.2.2.1)).trans hHeld.2.2.2.1, (hb.cell (World.block_lt_of_cell? _ _ hHeld.2.2.2.2.1)).trans hHeld.2.2.2.2.1, (hb.cell (World.block_lt_of_cell? _ _ hHeld.2.2.2.2.2.1)).trans hHeld.2.2.2.2.2.1, (hb.cell (World.block_lt_of_cell? _ _ hHeld.2.2.2.2.2.2.1)).trans hHeld.2.2.2.2.2.2.1, blk_b hb hHeld.2.2.2.2.2.2.2.1, blk_b hb hHeld.2.2.2.2.2.2.2.2.1, below_step hHeld.2.2.2.2.2.2.2.2.2 hb⟩ (fun hHeld => ?_); clear hK K
          refine norm_ (a' := ?_) ?_ ?_; rotate_left
          ·
           show Act.put _ (some 71) _ = _
           simp only [Act.put, sib_, sc0_, sc1_, i64_w, i32_w]
           rfl
          refine pu_ (v := ?_) (a' := ?_) 11 (some 72) #[true, true, true, true, true, true, true, true, true, true, true, true, false, false, false, false, false, false, false, false, false] rfl rfl (by kernel_rfl) (fun _ _ _ h => h) (.inl ⟨by rfl, ?_⟩) ?_ ?_; rotate_left
          · intro w'; go_simp; with_reducible rfl
          rotate_left
          · simp only [Act.put, sib_, sc0_, sc1_, i64_w, i32_w]; rfl
          refine pu_ (v := ?_) (a' := ?_) 12 (some 73) #[true, true, true, true, true, true, true, true, true, true, true, true, true, false, false, false, false, false, false, false, false] rfl rfl (by kernel_rfl) (fun _ _ _ h => h) (.inl ⟨by rfl, ?_⟩) ?_ ?_; rotate_left
          · intro w'; go_simp; with_reducible rfl
          rotate_left
          · simp only [Act.put, sib_, sc0_, sc1_, i64_w, i32_w]; rfl
          refine pu_ (v := ?_) (a' := ?_) 13 (some 74) #[true, true, true, true, true, true, true, true, true, true, true, true, true, true, false, false, false, false, false, false, false] rfl rfl (by kernel_rfl) (fun _ _ _ h => h) (.inl ⟨by rfl, ?_⟩) ?_ ?_; rotate_left
          · intro w'; go_simp; with_reducible rfl
          rotate_left
          · simp only [Act.put, sib_, sc0_, sc1_, i64_w, i32_w]; rfl
          refine pu_ (v := ?_) (a' := ?_) 14 (some 75) #[true, true, true, true, true, true, true, true, true, true, true, true, true, true, true, false, false, false, false, false, false] rfl rfl (by kernel_rfl) (fun _ _ _ h => h) (.inl ⟨by rfl, ?_⟩) ?_ ?_; rotate_left
          · intro w'; go_simp; with_reducible rfl
          rotate_left
          · simp only [Act.put, sib_, sc0_, sc1_, i64_w, i32_w]; rfl
          refine pu_ (v := ?_) (a' := ?_) 16 (some 77) #[true, true, true, true, true, true, true, true, true, true, true, true, true, true, true, false, true, false, false, false, false] rfl rfl (by kernel_rfl) (fun _ _ _ h => h) (.inl ⟨by rfl, ?_⟩) ?_ ?_; rotate_left
          · intro w'; go_simp; with_reducible rfl
          rotate_left
          · simp only [Act.put, sib_, sc0_, sc1_, i64_w, i32_w]; rfl
          refine pu_ (v := ?_) (a' := ?_) 18 (some 79) #[true, true, true, true, true, true, true, true, true, true, true, true, true, true, true, false, true, false, true, false, false] rfl rfl (by kernel_rfl) (fun _ _ _ h => h) (.inl ⟨by rfl, ?_⟩) ?_ ?_; rotate_left
          · intro w'; go_simp; with_reducible rfl
          rotate_left
          · simp only [Act.put, sib_, sc0_, sc1_, i64_w, i32_w]; rfl
          refine take_ (i := 15) (N := some 76) (v := ?_) (a' := ?_) #[true, true, true, true, true, true, true, true, true, true, true, true, true, true, true, true, true, false, true, false, false] rfl rfl (by kernel_rfl) (fun _ _ _ h => h) (Or.inl ⟨by rfl, ?_⟩) hHeld ?_ ?_; rotate_left
          ·
           rintro w' ⟨s0, s1, s2, s3, s4, s5, s6, s7, s8, s9⟩
           go_simp
           with_reducible rfl
          rotate_left
          · simp only [Act.put, sib_, sc0_, sc1_, i64_w, i32_w]; rfl
          refine pu_ (v := ?_) (a' := ?_) 17 (some 78) #[true, true, true, true, true, true, true, true, true, true, true, true, true, true, true, true, true, true, true, false, false] rfl rfl (by kernel_rfl) (fun _ _ _ h => h) (.inl ⟨by rfl, ?_⟩) ?_ ?_; rotate_left
          · intro w'; go_simp; with_reducible rfl
          rotate_left
          · simp only [Act.put, sib_, sc0_, sc1_, i64_w, i32_w]; rfl
          refine one_ (i := 19) (N := some 80) #[true, true, true, true, true, true, true, true, true, true, true, true, true, true, true, true, true, true, true, true, false] rfl rfl (by kernel_rfl) (by decide) (fun K hK => ?_)
          refine goes_ Try.func84 (by kernel_rfl) rfl #[.slice (some ad) i.toNat c0_2, .func (.func 85) #[] #[.pointer (some ⟨wr.heap.size, 0, none⟩)]] (by rfl) rfl rfl (by simp only [List.map_toArray, List.map_cons, List.map_nil]; rfl) ?_
          with_reducible refine (hCon _ hHeld.2.2.2.2.2.2.2.2.2 hHeld.2.2.2.2.2.2.2.2.1).mono ?_
          rintro e w3 ⟨rfl, hb⟩
          refine ⟨_, rfl, ?_⟩
          refine hK.out _ _ ⟨(hb.cell (World.block_lt_of_cell? _ _ hHeld.1)).trans hHeld.1, (hb.cell (World.block_lt_of_cell? _ _ hHeld.2.1)).trans hHeld.2.1, (hb.cell (World.block_lt_of_cell? _ _ hHeld.2.2.1)).trans hHeld.2.2.1, (hb.cell (World.block_lt_of_cell? _ _ hHeld.2.2.2.1)).trans hHeld.2.2.2.1, (hb.cell (World.block_lt_of_cell? _ _ hHeld.2.2.2.2.1)).trans hHeld.2.2.2.2.1, (hb.cell (World.block_lt_of_cell? _ _ hHeld.2.2.2.2.2.1)).trans hHeld.2.2.2.2.2.1, (hb.cell (World.block_lt_of_cell? _ _ hHeld.2.2.2.2.2.2.1)).trans hHeld.2.2.2.2.2.2.1, blk_b hb hHeld.2.2.2.2.2.2.2.1, blk_b hb hHeld.2.2.2.2.2.2.2.2.1, below_step hHeld.2.2.2.2.2.2.2.2.2 hb⟩ (fun hHeld => ?_); clear hK K
          refine norm_ (a' := ?_) ?_ ?_; rotate_left
          ·
           show Act.put _ (some 80) _ = _
           simp only [Act.put, sib_, sc0_, sc1_, i64_w, i32_w]
           rfl
          refine pu_ (v := ?_) (a' := ?_) 20 (some 81) #[true, true, true, true, true, true, true, true, true, true, true, true, true, true, true, true, true, true, true, true, true] rfl rfl (by kernel_rfl) (fun _ _ _ h => h) (.inl ⟨by rfl, ?_⟩) ?_ ?_; rotate_left
          · intro w'; go_simp; with_reducible rfl
          rotate_left
          · simp only [Act.put, sib_, sc0_, sc1_, i64_w, i32_w]; rfl
          refine done_ (by kernel_rfl) ?_; clear hw1
          have HREL := As_ hHeld
          have hcs2 := HREL.out.2.2.2.1
          clear hHeld hCon
          cases cn with
          | true =>
           have HQ := As_ (HN1.out (by have := HOK.out; rw [this]; simp))
           clear HOK HAR HS
           go_wp2
           go_ret
           exact ⟨ret_bool (by rw [HQ.out]), HREL.out.2.2.2.2.2.2.2.2.2⟩
          | false =>
           simp only [Bool.and_false, Bool.not_false, Bool.true_and] at HOK
           go_wp2
           go_roundg (n - (i + 1).toNat)
           case measure => have := hg.out; omega
           case rel =>
            refine ⟨i + 1, by omega, by omega, ⟨by omega⟩, by go_num, ?_, ⟨HREL.out.2.2.2.2.2.2.2.2.2⟩, ⟨HREL.out.2.2.2.2.2.2.2.1⟩, ⟨fun j hj0 hj => ?_⟩⟩
            · rw [show (i + 1).toNat = i.toNat + 1 by omega, impl_IsCut.area, ← HAR.out, show ((i.toNat : Nat) : Int) = i by omega, ← HS.out]
            ·
             by_cases e : j = i
             · subst e; rw [HOK.out]
             · exact AA.out j hj0 (by omega)
-- x 83 84

end Go.Proofs.Ytipiaiolhhnnhaa.PFnExactMakePuzzle
