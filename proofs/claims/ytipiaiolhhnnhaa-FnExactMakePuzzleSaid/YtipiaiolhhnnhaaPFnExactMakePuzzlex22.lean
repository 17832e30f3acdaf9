-- Written by a program of this session (wip/tools/pg.py) out of the translation.
import Derived.Test.YtipiaiolhhnnhaaPFnExactMakePuzzlex0
import Derived.Test.YtipiaiolhhnnhaaPFnExactMakePuzzlex14
import Derived.Test.YtipiaiolhhnnhaaPFnExactMakePuzzlex16
import Derived.Test.YtipiaiolhhnnhaaPFnExactMakePuzzlex20
import Derived.Test.YtipiaiolhhnnhaaPFnExactMakePuzzlex21
namespace Go.Proofs.Ytipiaiolhhnnhaa.PFnExactMakePuzzle
open Go.RowKit Go.Proofs.YtipiaiolhhnnhaaW.PrintWords Go.Proofs.YtipiaiolhhnnhaaW.PrintLast Go.Proofs.YtipiaiolhhnnhaaW.PrintMore Go.Proofs.YtipiaiolhhnnhaaH
attribute [local go_sem] max2_int min2_int max_two min_two max_three min_three max_four min_four   -- for this text's walks alone
set_option linter.unusedVariables false
set_option linter.unusedSimpArgs false

/-! ### impl_Cut_longestLine: function 76 (by hand) -/
/- x 99 100 46 still_ -/
/-- The greatest of these lines that lie within. -/
def llMost (h m : Int) : List (List Int) → Option Int
 | [] => some m
 | x :: r => if 3 ≤ x.length then llMost h (if winB (rd x 0) 1 (wrap64 (h - 1)) = true then mx m (wrap64 (rd x 2 - rd x 1)) else m) r else none
def impl_Cut_longestLine.f (k : Nat) (a0_0 : Int) (a0_1 : Int) (l0_2 : List S87) : Option Int :=
 (impl_Cut_turned.f a0_0 a0_1 l0_2).bind fun t => (impl_Cut_linesAcross.f k a0_0 a0_1 l0_2).bind fun L1 => (impl_Cut_linesAcross.f k t.1 t.2.1 t.2.2).bind fun L2 => (llMost a0_1 0 L1).bind fun m => llMost t.2.1 m L2
theorem impl_Cut_longestLine.mono : ∀ a0 a1 a2 k, LeO (impl_Cut_longestLine.f k a0 a1 a2) (impl_Cut_longestLine.f (k + 1) a0 a1 a2) := by
 intro a0 a1 a2 k
 unfold impl_Cut_longestLine.f
 exact LeO.bind (LeO.refl _) (fun _ => LeO.bind (impl_Cut_linesAcross.mono _ _ _ _) (fun _ => LeO.bind (impl_Cut_linesAcross.mono _ _ _ _) (fun _ => LeO.refl _)))
theorem ll_rows {w : World} {A : Option Addr} {n : Nat} {xs : List (List Int)} (h : Kd.C (Kd.slice 3 (Kd.int .i64)) w A n xs) (i : Int) (h0 : 0 ≤ i) (h1 : i < n) : ∃ ad A0 c0, A = some ad ∧ w.cell? (ad.add i.toNat) = some (.slice A0 (xs.getD i.toNat []).length c0) ∧ (xs.getD i.toNat []).length ≤ c0 ∧ (Kd.int .i64).C w A0 (xs.getD i.toNat []).length (xs.getD i.toNat []) := by
 obtain ⟨ad, c, e, _, hK, hc0⟩ := Kd.C_get h ([] : List Int) i h0 h1
 have hc : ∀ j u, c[j]? = some u → w.cell? (ad.add (i.toNat * 1 + j)) = some u := hc0
 obtain ⟨A0, c0, rfl, l0, g0⟩ := hK
 exact ⟨ad, A0, c0, e, by have hq := hc 0 _ rfl; rwa [Nat.mul_one, Nat.add_zero] at hq, l0, g0⟩
theorem within_still (a b c : Int) (w : World) : Calls Try.prog 46 #[.int .i64 a, .int .i64 b, .int .i64 c] w fun e w' => e = .returned (.bool (winB a b c)) ∧ w' = w := by
 unfold winB
 by_cases h1 : b ≤ a
 ·
  have h2 : decide (b ≤ a) = true := decide_eq_true h1
  rw [h2]
  simp only [Bool.true_and]
  go_enter Try.func46, Try.ntmps46
  go_wp2
  go_ret
  exact ⟨rfl, rfl⟩
 ·
  have h2 : decide (b ≤ a) = false := decide_eq_false h1
  rw [h2]
  simp only [Bool.false_and]
  go_enter Try.func46, Try.ntmps46
  go_wp2
  go_ret
  exact ⟨rfl, rfl⟩
theorem ll_two (w : World) (g : Nat) (x y : S31) (A B : Option Addr) (c d : Nat) (hx : x.f2.length ≤ c) (hy : y.f2.length ≤ d) (hX : Kd.C k87 w A x.f2.length x.f2) (hY : Kd.C k87 w B y.f2.length y.f2)
  (hg : w.heap[g]? = some (.cells #[.int .i64 x.f0, .int .i64 x.f1, .slice A x.f2.length c, .int .i64 y.f0, .int .i64 y.f1, .slice B y.f2.length d] 31 (0, 0))) : Kd.C k31 w (some ⟨g, 0, none⟩) 2 [x, y] := by
 refine ⟨rfl, by simp [maxLen], fun _ => ⟨⟨g, 0, none⟩, rfl, fun j p hj => ?_⟩⟩
 match j, hj with
 | 0, hj =>
  obtain rfl := Option.some.inj hj
  refine ⟨[.int .i64 x.f0, .int .i64 x.f1, .slice A x.f2.length c], rfl, k31_mk w x hx hX, fun q u hq => ?_⟩
  match q, hq with
  | 0, hq => exact (blk_cell hg 0).trans hq
  | 1, hq => exact (blk_cell hg 1).trans hq
  | 2, hq => exact (blk_cell hg 2).trans hq
 | 1, hj =>
  obtain rfl := Option.some.inj hj
  refine ⟨[.int .i64 y.f0, .int .i64 y.f1, .slice B y.f2.length d], rfl, k31_mk w y hy hY, fun q u hq => ?_⟩
  match q, hq with
  | 0, hq => exact (blk_cell hg 3).trans hq
  | 1, hq => exact (blk_cell hg 4).trans hq
  | 2, hq => exact (blk_cell hg 5).trans hq
set_option maxHeartbeats 16000000 in
set_option maxRecDepth 100000 in
theorem impl_Cut_longestLine.calls (k : Nat) (a0_0 : Int) (a0_1 : Int) (A0_2 : Option Addr) (c0_2 : Nat) (l0_2 : List (S87)) (r : Int) (w : World) (hr0_2 : Kd.C k87 w A0_2 l0_2.length l0_2) (hc0_2 : l0_2.length ≤ c0_2) (h : impl_Cut_longestLine.f k a0_0 a0_1 l0_2 = some r) :
  Calls Try.prog 76 #[.agg #[.int .i64 a0_0, .int .i64 a0_1, .slice A0_2 l0_2.length c0_2]] w fun e w' => e = .returned (.int .i64 r) ∧ Below w.heap.size w w' := by
 unfold impl_Cut_longestLine.f at h
 obtain ⟨⟨t1, t2, t3⟩, ht, h⟩ := Option.bind_eq_some_iff.mp h
 obtain ⟨L1, hL1, h⟩ := Option.bind_eq_some_iff.mp h
 obtain ⟨L2, hL2, h⟩ := Option.bind_eq_some_iff.mp h
 obtain ⟨m1, hm1, h⟩ := Option.bind_eq_some_iff.mp h
 simp only at hL2 h
 have hu1 := Try.underlying31
 have HT := As_ (fun w1 hh => impl_Cut_turned.calls a0_0 a0_1 A0_2 c0_2 l0_2 t1 t2 t3 w1 hh hc0_2 ht)
 have HR := As_ hr0_2
 have HC := As_ hc0_2
 have HB := As_ (Below.refl w.heap.size w)
 have HI := As_ (show ∀ i : Int, 0 ≤ i → i < 2 → ∀ m, ((i = 0 ∧ m = 0) ∨ (i = 1 ∧ m = m1) ∨ (i = 2 ∧ m = r)) → ∃ L mo, impl_Cut_linesAcross.f k (rd_T31 [⟨a0_0, a0_1, l0_2⟩, ⟨t1, t2, t3⟩] i).f0 (rd_T31 [⟨a0_0, a0_1, l0_2⟩, ⟨t1, t2, t3⟩] i).f1 (rd_T31 [⟨a0_0, a0_1, l0_2⟩, ⟨t1, t2, t3⟩] i).f2 = some L ∧ llMost (rd_T31 [⟨a0_0, a0_1, l0_2⟩, ⟨t1, t2, t3⟩] i).f1 m L = some mo ∧ ((i + 1 = 0 ∧ mo = 0) ∨ (i + 1 = 1 ∧ mo = m1) ∨ (i + 1 = 2 ∧ mo = r)) from by
  intro i h0 h2 m hm
  rcases hm with ⟨rfl, rfl⟩ | ⟨rfl, rfl⟩ | ⟨rfl, rfl⟩
  · exact ⟨L1, m1, hL1, hm1, .inr (.inl ⟨by omega, rfl⟩)⟩
  · exact ⟨L2, r, hL2, h, .inr (.inr ⟨by omega, rfl⟩)⟩
  · omega)
 clear hr0_2 hc0_2 h hL1 hL2 hm1 ht
 go_enter Try.func76, Try.ntmps76
 go_upto_region 2 with (fail)
 have F0 := As_ (show (w.alloc (.cells #[.int .i64 a0_0, .int .i64 a0_1, .slice A0_2 l0_2.length c0_2] 31)).cell? ⟨w.heap.size, 0, none⟩ = some (.int .i64 a0_0) from (blk_cell (heap_alloc_new w _) 0).trans rfl)
 have F1 := As_ (show (w.alloc (.cells #[.int .i64 a0_0, .int .i64 a0_1, .slice A0_2 l0_2.length c0_2] 31)).cell? ⟨w.heap.size, 1, none⟩ = some (.int .i64 a0_1) from (blk_cell (heap_alloc_new w _) 1).trans rfl)
 have F2 := As_ (show (w.alloc (.cells #[.int .i64 a0_0, .int .i64 a0_1, .slice A0_2 l0_2.length c0_2] 31)).cell? ⟨w.heap.size, 2, none⟩ = some (.slice A0_2 l0_2.length c0_2) from (blk_cell (heap_alloc_new w _) 2).trans rfl)
 have F3 := As_ (show Below w.heap.size w (w.alloc (.cells #[.int .i64 a0_0, .int .i64 a0_1, .slice A0_2 l0_2.length c0_2] 31)) from below_alloc HB.out _)
 refine start_ (n := 6) (S := fun w' => w'.cell? ⟨w.heap.size, 0, none⟩ = some (.int .i64 a0_0) ∧ w'.cell? ⟨w.heap.size, 1, none⟩ = some (.int .i64 a0_1) ∧ w'.cell? ⟨w.heap.size, 2, none⟩ = some (.slice A0_2 l0_2.length c0_2) ∧ Below w.heap.size w w') (ds := []) #[false, false, false, false, false, false] (by kernel_rfl) rfl rfl ⟨(show _ from F0.out), (show _ from F1.out), (show _ from F2.out), (by repeat (first | exact F3.out | apply bn_ | apply bd_))⟩ (fun hHeld => ?_)
 refine pu_ (v := ?_) (a' := ?_) 5 (some 13) #[false, false, false, false, false, true] rfl rfl (by kernel_rfl) (fun _ _ _ h => h) (.inl ⟨by rfl, ?_⟩) ?_ ?_; rotate_left
 · intro w'; go_simp; with_reducible rfl
 rotate_left
 · simp only [Act.put, sib_, sc0_, sc1_, i64_w, i32_w]; rfl
 refine take_ (i := 0) (N := some 8) (v := ?_) (a' := ?_) #[true, false, false, false, false, true] rfl rfl (by kernel_rfl) (fun _ _ _ h => h) (Or.inl ⟨by rfl, ?_⟩) hHeld ?_ ?_; rotate_left
 ·
  rintro w' ⟨s0, s1, s2, s3⟩
  go_simp
  with_reducible rfl
 rotate_left
 · simp only [Act.put, sib_, sc0_, sc1_, i64_w, i32_w]; rfl
 refine take_ (i := 1) (N := some 9) (v := ?_) (a' := ?_) #[true, true, false, false, false, true] rfl rfl (by kernel_rfl) (fun _ _ _ h => h) (Or.inl ⟨by rfl, ?_⟩) hHeld ?_ ?_; rotate_left
 ·
  rintro w' ⟨s0, s1, s2, s3⟩
  go_simp
  with_reducible rfl
 rotate_left
 · simp only [Act.put, sib_, sc0_, sc1_, i64_w, i32_w]; rfl
 refine one_ (i := 2) (N := some 10) #[true, true, true, false, false, true] rfl rfl (by kernel_rfl) (by decide) (fun K hK => ?_)
 refine goes_ Try.func99 (by kernel_rfl) rfl #[.agg #[.int .i64 a0_0, .int .i64 a0_1, .slice A0_2 l0_2.length c0_2]] (by rfl) rfl rfl (by simp only [List.map_toArray, List.map_cons, List.map_nil]; rfl) ?_
 with_reducible refine (HT.out _ (Kd.C_below HR.out hHeld.2.2.2)).mono ?_
 rintro e w3 ⟨v3, rfl, ho, hb⟩
 refine ⟨_, rfl, ?_⟩
 obtain ⟨A3, c3, rfl⟩ := Kd.R_slice ho
 have HO := As_ ho
 clear ho
 refine hK.out _ _ ⟨(hb.cell (World.block_lt_of_cell? _ _ hHeld.1)).trans hHeld.1, (hb.cell (World.block_lt_of_cell? _ _ hHeld.2.1)).trans hHeld.2.1, (hb.cell (World.block_lt_of_cell? _ _ hHeld.2.2.1)).trans hHeld.2.2.1, below_step hHeld.2.2.2 hb⟩ (fun hHeld => ?_); clear hK K
 refine norm_ (a' := ?_) ?_ ?_; rotate_left
 ·
  show Act.put _ (some 10) _ = _
  simp only [Act.put, sib_, sc0_, sc1_, i64_w, i32_w]
  rfl
 refine one_ (i := 3) (N := some 11) #[true, true, true, true, false, true] rfl rfl (by kernel_rfl) (by decide) (fun K hK => ?_)
 have HV := As_ hHeld
 refine value_ (w1 := ?_) (v := ?_) (by rfl) rfl ?_ ?_
 rotate_left 2
 ·
  go_simp
  constructor
  · rfl
  · rfl
 refine hK.out _ _ ⟨((below_alloc (Below.refl _ _) _).cell (World.block_lt_of_cell? _ _ hHeld.1)).trans hHeld.1, ((below_alloc (Below.refl _ _) _).cell (World.block_lt_of_cell? _ _ hHeld.2.1)).trans hHeld.2.1, ((below_alloc (Below.refl _ _) _).cell (World.block_lt_of_cell? _ _ hHeld.2.2.1)).trans hHeld.2.2.1, below_alloc hHeld.2.2.2 _⟩ (fun hHeld => ?_); clear hK K
 refine norm_ (a' := ?_) ?_ ?_; rotate_left
 ·
  show Act.put _ (some 11) _ = _
  simp only [Act.put, sib_, sc0_, sc1_, i64_w, i32_w]
  rfl
 refine pu_ (v := ?_) (a' := ?_) 4 (some 12) #[true, true, true, true, true, true] rfl rfl (by kernel_rfl) (fun _ _ _ h => h) (.inl ⟨by rfl, ?_⟩) ?_ ?_; rotate_left
 · intro w'; go_simp; with_reducible rfl
 rotate_left
 · simp only [Act.put, sib_, sc0_, sc1_, i64_w, i32_w]; rfl
 refine done_ (by kernel_rfl) ?_; clear F0 F1 F2 F3
 have HBW := As_ hHeld.2.2.2
 have HCC := As_ (ll_two _ w3.heap.size ⟨a0_0, a0_1, l0_2⟩ ⟨t1, t2, t3⟩ A0_2 A3 c0_2 c3 HC.out (Kd.R_reads' HO.out).2.1 (Kd.C_below HR.out hHeld.2.2.2) (Kd.C_below (Kd.R_reads' HO.out).2.2 (below_alloc (Below.refl _ _) _)) (heap_alloc_new w3 _))
 clear hHeld HV HO HR HC
 go_wp2
 generalize (w3.alloc (.cells #[.int .i64 a0_0, .int .i64 a0_1, .slice A0_2 l0_2.length c0_2, .int .i64 t1, .int .i64 t2, .slice A3 t3.length c3] 31)) = W2 at HBW HCC ⊢
 generalize ([⟨a0_0, a0_1, l0_2⟩, ⟨t1, t2, t3⟩] : List S31) = ys at HI HCC
 generalize (⟨w3.heap.size, 0, none⟩ : Addr) = adL at HCC ⊢
 go_loopg [3, 13] 2 (fun gg s3 s13 wr => ∃ (i m : Int), 0 ≤ i ∧ i ≤ 2 ∧ Aside0 (2 - i.toNat ≤ gg) ∧ s13 = .int .i64 i ∧ s3 = .int .i64 m ∧ Aside0 ((i = 0 ∧ m = 0) ∨ (i = 1 ∧ m = m1) ∨ (i = 2 ∧ m = r)) ∧ Aside0 (Below W2.heap.size W2 wr))
 case atStart => exact ⟨0, 0, by omega, by omega, ⟨by omega⟩, rfl, rfl, ⟨.inl ⟨rfl, rfl⟩⟩, ⟨Below.refl _ _⟩⟩
 case round =>
  obtain ⟨i, m, hi0, hi2, hg, rfl, rfl, HM, BW⟩ := hrel
  obtain ⟨wo, rfl⟩ : ∃ wo : World, wo = wr := ⟨_, rfl⟩
  by_cases hlt : i < 2
  case neg =>
   go_wp2
   go_ret
   exact ⟨ret_i64 (by rcases HM.out with ⟨a, b⟩ | ⟨a, b⟩ | ⟨a, b⟩ <;> omega), below_step HBW.out BW.out⟩
  obtain ⟨L, mo, hL, hmo, hnx⟩ := HI.out i hi0 hlt m HM.out
  obtain ⟨ad, A2, c2, ea, hs0, hs1, hs2, hc2, hC2⟩ := at_T31 HCC.out i hi0 hlt
  cases ea
  replace hs0 := (BW.out.cell (World.block_lt_of_cell? W2 _ hs0)).trans hs0
  replace hs1 := (BW.out.cell (World.block_lt_of_cell? W2 _ hs1)).trans hs1
  replace hs2 := (BW.out.cell (World.block_lt_of_cell? W2 _ hs2)).trans hs2
  obtain ⟨y, hy⟩ : ∃ y, y = rd_T31 ys i := ⟨_, rfl⟩
  rw [← hy] at hL hmo hs0 hs1 hs2 hc2 hC2
  clear hy
  have HLA := As_ (fun w1 hh => impl_Cut_linesAcross.calls k y.f0 y.f1 A2 c2 y.f2 L w1 hh hc2 hL)
  have HC2 := As_ hC2
  have HMO := As_ hmo
  have HNX := As_ hnx
  clear hL hC2 hmo hnx hc2
  go_wp2_with (go_at_call 100; refine (HLA.out _ (Kd.C_below HC2.out (below_step BW.out (below_alloc (Below.refl _ _) _)))).mono ?_; rintro e w4 ⟨v4, rfl, ho, hb⟩; obtain ⟨A4, c4, rfl⟩ := Kd.R_slice (Kd.S_R ho); have HS := As_ (Kd.S_reads' ho).2.2; have BK := As_ (blk_b hb (heap_alloc_new wo _)); have HB4 := As_ (below_step (below_step BW.out (below_alloc (Below.refl _ _) _)) hb); clear ho hb)
  have hLb : L.length ≤ 9223372036854775807 := HS.out.2.1
  go_loopg [3, 20] L.length (fun gg s3 s20 wr => ∃ (j p : Int), 0 ≤ j ∧ j ≤ L.length ∧ Aside0 (L.length - j.toNat ≤ gg) ∧ s20 = .int .i64 j ∧ s3 = .int .i64 p ∧ Aside0 (llMost y.f1 p (L.drop j.toNat) = some mo) ∧ Aside0 (Below w4.heap.size w4 wr))
  case atStart => exact ⟨0, m, by omega, by omega, ⟨by omega⟩, rfl, rfl, ⟨by simpa using HMO.out⟩, ⟨Below.refl _ _⟩⟩
  case round =>
   obtain ⟨j, p, hj0, hjn, hgj, rfl, rfl, HP, BI⟩ := hrel
   by_cases hjl : j < L.length
   case neg =>
    have hpm : p = mo := by
     have := HP.out
     rw [List.drop_eq_nil_of_le (by omega)] at this
     simpa [llMost] using this
    have HPM := As_ hpm
    clear hpm
    go_wp2
    go_roundg (2 - (i + 1).toNat)
    case measure => have := hg.out; omega
    case rel => exact ⟨i + 1, p, by omega, by omega, ⟨by omega⟩, by go_num, rfl, ⟨by rw [HPM.out]; exact HNX.out⟩, ⟨below_step HB4.out BI.out⟩⟩
   have HX := HP.out
   rw [List.drop_eq_getElem_cons (by omega : j.toNat < L.length)] at HX
   obtain ⟨ad4, A5, c5, e4, hx, hl5, hC5⟩ := ll_rows HS.out j hj0 hjl
   have hgd : L.getD j.toNat [] = L[j.toNat]'(by omega) := by simp [List.getD_eq_getElem?_getD, show j.toNat < L.length by omega]
   rw [hgd] at hx hl5 hC5
   generalize L[j.toNat]'(by omega) = x at HX hx hl5 hC5
   simp only [llMost] at HX
   by_cases h3 : 3 ≤ x.length
   case neg => rw [if_neg h3] at HX; cases HX
   rw [if_pos h3] at HX
   cases e4
   obtain ⟨ad5, e5, hx0⟩ := Kd.at_int hC5 0 (by omega) (by omega)
   cases e5
   obtain ⟨_, e5, hx1⟩ := Kd.at_int hC5 1 (by omega) (by omega)
   cases e5
   obtain ⟨_, e5, hx2⟩ := Kd.at_int hC5 2 (by omega) (by omega)
   cases e5
   rw [show ((0 : Int)).toNat = 0 from rfl, Addr.add_zero'] at hx0
   rw [show ((1 : Int)).toNat = 0 + 1 from rfl, add_field _ 0 1 (by omega), Addr.add_zero'] at hx1
   rw [show ((2 : Int)).toNat = 0 + 2 from rfl, add_field _ 0 2 (by omega), Addr.add_zero'] at hx2
   replace hx := (BI.out.cell (World.block_lt_of_cell? w4 _ hx)).trans hx
   replace hx0 := (BI.out.cell (World.block_lt_of_cell? w4 _ hx0)).trans hx0
   replace hx1 := (BI.out.cell (World.block_lt_of_cell? w4 _ hx1)).trans hx1
   replace hx2 := (BI.out.cell (World.block_lt_of_cell? w4 _ hx2)).trans hx2
   have hy1 : wr.cell? ⟨wo.heap.size, 1, none⟩ = some (.int .i64 y.f1) := (blk_cell (blk_b BI.out BK.out) 1).trans rfl
   have hn0 : (0 : Int) < (x.length : Int) := by omega
   have hn1 : (1 : Int) < (x.length : Int) := by omega
   have hn2 : (2 : Int) < (x.length : Int) := by omega
   have hq0 : 0 < x.length := by omega
   have hq1 : 1 < x.length := by omega
   have hq2 : 2 < x.length := by omega
   have HX' := As_ HX
   clear HX hgd hC5 h3
   go_upto_region 8 with (fail)
   obtain ⟨W5, hW5⟩ : ∃ W5, wr.drewN 1 = W5 := ⟨_, rfl⟩
   refine tail_ 6 (by kernel_rfl) (by kernel_rfl) W5 hW5 ?_
   replace hx0 := cell_at hW5 hx0
   replace hx1 := cell_at hW5 hx1
   replace hx2 := cell_at hW5 hx2
   replace hy1 := cell_at hW5 hy1
   have BI5 := As_ (below_at hW5 BI.out)
   clear hW5 BI hx
   have hws := within_still (rd x 0) 1 (wrap64 (y.f1 - 1))
   cases hb : winB (rd x 0) 1 (wrap64 (y.f1 - 1)) with
   | false =>
    rw [hb] at hws
    have HQ := As_ (show llMost y.f1 p (L.drop (j.toNat + 1)) = some mo by have := HX'.out; rwa [hb, if_neg (by decide)] at this)
    clear hb HX'
    simp only [List.take_succ_cons, List.take_zero, List.drop_succ_cons, List.drop_zero]
    repeat still_step
    refine wpStill_nil ?_
    go_wp2_with (go_at_call 46; refine (hws _).mono ?_; rintro e W5 ⟨rfl, rfl⟩)
    go_roundg (L.length - (j + 1).toNat)
    case measure => have := hgj.out; omega
    case rel => exact ⟨j + 1, p, by omega, by omega, ⟨by omega⟩, by go_num, rfl, ⟨by rw [show (j + 1).toNat = j.toNat + 1 by omega]; exact HQ.out⟩, ⟨BI5.out⟩⟩
   | true =>
    rw [hb] at hws
    have HQ := As_ (show llMost y.f1 (mx p (wrap64 (rd x 2 - rd x 1))) (L.drop (j.toNat + 1)) = some mo by have := HX'.out; rwa [hb, if_pos rfl] at this)
    clear hb HX'
    simp only [List.take_succ_cons, List.take_zero, List.drop_succ_cons, List.drop_zero]
    repeat still_step
    refine wpStill_nil ?_
    go_wp2_with (go_at_call 46; refine (hws _).mono ?_; rintro e W5 ⟨rfl, rfl⟩)
    obtain ⟨W6, hW6⟩ : ∃ W6, W5.drewN 1 = W6 := ⟨_, rfl⟩
    refine tail_ 9 (by kernel_rfl) (by kernel_rfl) W6 hW6 ?_
    replace hx1 := cell_at hW6 hx1
    replace hx2 := cell_at hW6 hx2
    have BI6 := As_ (below_at hW6 BI5.out)
    clear hW6 BI5 hx0 hy1
    obtain ⟨d, hd⟩ : ∃ d, wrap64 (rd x 2 - rd x 1) = d := ⟨_, rfl⟩
    rw [hd] at HQ
    have hww : IntKind.i64.wrap (rd x 2 - rd x 1) = d := (i64_w _).trans hd
    obtain ⟨q, hq⟩ : ∃ q, mx p d = q := ⟨_, rfl⟩
    rw [hq] at HQ
    have hq_ : (if p < d then d else p) = q := hq
    clear hd hq
    simp only [List.take_succ_cons, List.take_zero, List.drop_succ_cons, List.drop_zero]
    repeat still_step
    refine wpStill_nil ?_
    go_wp2
    go_roundg (L.length - (j + 1).toNat)
    case measure => have := hgj.out; omega
    case rel => exact ⟨j + 1, q, by omega, by omega, ⟨by omega⟩, by go_num, rfl, ⟨by rw [show (j + 1).toNat = j.toNat + 1 by omega]; exact HQ.out⟩, ⟨BI6.out⟩⟩

end Go.Proofs.Ytipiaiolhhnnhaa.PFnExactMakePuzzle
