-- Written by a program of this session (wip/tools/pg.py) out of the translation.
import Derived.Test.YtipiaiolhhnnhaaPFnExactMakePuzzlex0
import Derived.Test.YtipiaiolhhnnhaaPFnExactMakePuzzlex12
import Derived.Test.YtipiaiolhhnnhaaPFnExactMakePuzzlex13
import Derived.Test.YtipiaiolhhnnhaaPFnExactMakePuzzlex15
namespace Go.Proofs.Ytipiaiolhhnnhaa.PFnExactMakePuzzle
open Go.RowKit Go.Proofs.YtipiaiolhhnnhaaW.PrintWords Go.Proofs.YtipiaiolhhnnhaaW.PrintLast Go.Proofs.YtipiaiolhhnnhaaW.PrintMore Go.Proofs.YtipiaiolhhnnhaaH
attribute [local go_sem] max2_int min2_int max_two min_two max_three min_three max_four min_four   -- for this text's walks alone
set_option linter.unusedVariables false
set_option linter.unusedSimpArgs false

/-! ### impl_Cut_at: function 73 (by hand) -/
/- x 97 86 -/
def impl_at.over (x y : Int) (s : S87) : Bool := (impl_overlap.f s.f0 s.f1 s.f2 x y 1).getD false
theorem impl_at.over_some (x y : Int) (s : S87) : impl_overlap.f s.f0 s.f1 s.f2 x y 1 = some (impl_at.over x y s) := by
 obtain ⟨r, hr⟩ : ∃ r, impl_overlap.f s.f0 s.f1 s.f2 x y 1 = some r := by
  unfold impl_overlap.f
  repeat' (first | exact ⟨_, rfl⟩ | split)
 simp [impl_at.over, hr]
theorem impl_at.pred (x y : Int) (gx gy : Nat) (w : World) (hx : w.heap[gx]? = some (.cells #[.int .i64 x] 3 (0, 0))) (hy : w.heap[gy]? = some (.cells #[.int .i64 y] 3 (0, 0))) :
  PB Try.prog 98 #[.pointer (some ⟨gx, 0, none⟩), .pointer (some ⟨gy, 0, none⟩)] enc_Square (impl_at.over x y) w := by
 intro W s hb
 have h0 : W.cell? ⟨gx, 0, none⟩ = some (.int .i64 x) := (hb.cell (p := ⟨gx, 0, none⟩) (blk_lt hx)).trans ((blk_cell hx 0).trans rfl)
 have h1 : W.cell? ⟨gy, 0, none⟩ = some (.int .i64 y) := (hb.cell (p := ⟨gy, 0, none⟩) (blk_lt hy)).trans ((blk_cell hy 0).trans rfl)
 have hxW : gx < W.heap.size := Nat.lt_of_lt_of_le (blk_lt hx) hb.size
 have hyW : gy < W.heap.size := Nat.lt_of_lt_of_le (blk_lt hy) hb.size
 have hu := Try.underlying87
 have hok := impl_at.over_some x y s
 have hne : ¬ gx = W.heap.size := by omega
 have hne2 : ¬ gy = W.heap.size := by omega
 have hc := fun w1 => impl_overlap.calls s.f0 s.f1 s.f2 x y 1 (impl_at.over x y s) w1 hok
 have HB := As_ hb
 clear hok hx hy hb
 show Calls Try.prog 98 #[enc_Square s, .pointer (some ⟨gx, 0, none⟩), .pointer (some ⟨gy, 0, none⟩)] W (fun e w' => e = .returned (.bool (impl_at.over x y s)) ∧ Below w.heap.size w w')
 generalize impl_at.over x y s = r at hc ⊢
 simp only [enc_Square]
 go_enter Try.func98, Try.ntmps98
 go_wp2_with (go_at_call 86; refine (hc _).mono ?_; rintro e w' ⟨rfl, hb'⟩)
 go_ret
 exact ⟨rfl, (HB.out.alloc HB.out.size _).trans (hb'.mono (by have := HB.out.size; simp; omega))⟩
def impl_Cut_at.f (a0_0 : Int) (a0_1 : Int) (l0_2 : List (S87)) (a1 a2 : Int) : Option Int := some (idxOf (impl_at.over a1 a2) l0_2)
theorem alloc3_b (w : World) (A B C : Obj) : (((w.alloc A).alloc B).alloc C).heap[w.heap.size + 1]? = some B := by
 show (((w.heap.push A).push B).push C)[w.heap.size + 1]? = some B
 rw [Array.getElem?_push, if_neg (by simp), Array.getElem?_push, if_pos (by simp)]
theorem alloc3_c (w : World) (A B C : Obj) : (((w.alloc A).alloc B).alloc C).heap[w.heap.size + 1 + 1]? = some C := by
 show (((w.heap.push A).push B).push C)[w.heap.size + 1 + 1]? = some C
 rw [Array.getElem?_push, if_pos (by simp)]
set_option maxHeartbeats 8000000 in
set_option maxRecDepth 100000 in
theorem impl_Cut_at.calls (a0_0 : Int) (a0_1 : Int) (A0_2 : Option Addr) (c0_2 : Nat) (l0_2 : List (S87)) (a1 a2 : Int) (r : Int) (w : World) (hr0_2 : Kd.C k87 w A0_2 l0_2.length l0_2) (hc0_2 : l0_2.length ≤ c0_2) (h : impl_Cut_at.f a0_0 a0_1 l0_2 a1 a2 = some r) :
  Calls Try.prog 73 #[.agg #[.int .i64 a0_0, .int .i64 a0_1, .slice A0_2 l0_2.length c0_2], .int .i64 a1, .int .i64 a2] w fun e w' => e = .returned (.int .i64 r) ∧ Below w.heap.size w w' := by
 have hu54 := Try.underlying31
 have hbig : l0_2.length ≤ 9223372036854775807 := hr0_2.2.1
 have HR := As_ hr0_2
 clear hr0_2 hc0_2
 unfold impl_Cut_at.f at h
 obtain rfl := Option.some.inj h
 clear h
 have eg : ∀ args w, (callFunc 98 args).run Try.prog w = .ok (.enter 98 args) w := enters_of Try.func98 (by kernel_rfl) rfl
 have HB := As_ (Below.refl w.heap.size w)
 have hix := fun gx gy (w1 : World) hC h1 h2 => indexFunc_Square (impl_at.over a1 a2) 98 #[.pointer (some ⟨gx, 0, none⟩), .pointer (some ⟨gy, 0, none⟩)] eg A0_2 l0_2.length c0_2 l0_2 w1 hC hbig (impl_at.pred a1 a2 gx gy w1 h1 h2)
 have HI := As_ hix
 have HG := As_ hbig
 clear hix hbig
 go_enter Try.func73, Try.ntmps73
 go_wp2_with (go_at_call 97; refine (HI.out _ _ _ (Kd.C_below HR.out (below_alloc (below_alloc (below_alloc HB.out _) _) _)) (alloc3_b _ _ _ _) (alloc3_c _ _ _ _)).mono ?_; rintro e w' ⟨rfl, hb'⟩; have HB2 := As_ (below_step (below_alloc (below_alloc (below_alloc HB.out _) _) _) hb'); clear hb')
 go_ret
 exact ⟨rfl, HB2.out⟩

/-! ### impl_Cut_atEdges: function 74 (by hand) -/
/- x 72 -/
theorem tail_ {P : Program} {id : Nat} {Q : Exit → Act → World → Prop} {a : Act} {w : World} {l : List Oper} (n : Nat) (hm : P.follows .mixedOrders = true) (hB : Region.lexTailB .any l.toArray n = true) (W : World) (hW : w.drewN 1 = W)
  (h : wpStill P l.toArray W (fun a' => wpList P l.toArray Q (l.drop n) a' W) (l.take n) a) : (Code.region id l.toArray true).wp P Q a w := by
 subst hW
 exact wp_region_still_tail n hm hB h
def bitI (b : Bool) : Int := if b then 1 else 0
def edB (b : Bool) (x : Int) : Int := wrap64 (x + bitI b)
/-- The four counts of the first n squares. -/
def edCnt (w h : Int) (l : List S87) : Nat → Int × Int × Int × Int
 | 0 => (0, 0, 0, 0)
 | n + 1 => (edB ((rd_T87 l (n : Int)).f1 == 0) (edCnt w h l n).1, edB (wrap64 ((rd_T87 l (n : Int)).f0 + (rd_T87 l (n : Int)).f2) == w) (edCnt w h l n).2.1,
   edB (wrap64 ((rd_T87 l (n : Int)).f1 + (rd_T87 l (n : Int)).f2) == h) (edCnt w h l n).2.2.1, edB ((rd_T87 l (n : Int)).f0 == 0) (edCnt w h l n).2.2.2)
def edList (x : Int × Int × Int × Int) : List Int := [x.1, x.2.1, x.2.2.1, x.2.2.2]
def impl_Cut_atEdges.f (a0_0 : Int) (a0_1 : Int) (l0_2 : List (S87)) : Option (List Int) := some (edList (edCnt a0_0 a0_1 l0_2 l0_2.length))
theorem impl_bit.tot (b : Bool) : impl_bit.f b = some (bitI b) := by cases b <;> rfl
theorem bit_still (b : Bool) (w : World) : Calls Try.prog 72 #[.bool b] w fun e w' => e = .returned (.int .i64 (bitI b)) ∧ w' = w := by
 cases b
 all_goals
  go_enter Try.func72, Try.ntmps72
  go_wp2
  go_ret
  exact ⟨rfl, rfl⟩
set_option maxHeartbeats 16000000 in
set_option maxRecDepth 100000 in
theorem impl_Cut_atEdges.calls (a0_0 : Int) (a0_1 : Int) (A0_2 : Option Addr) (c0_2 : Nat) (l0_2 : List (S87)) (r : List Int) (w : World) (hr0_2 : Kd.C k87 w A0_2 l0_2.length l0_2) (hc0_2 : l0_2.length ≤ c0_2) (h : impl_Cut_atEdges.f a0_0 a0_1 l0_2 = some r) :
  Calls Try.prog 74 #[.agg #[.int .i64 a0_0, .int .i64 a0_1, .slice A0_2 l0_2.length c0_2]] w fun e w' => ∃ v0_ : Value, e = .returned (v0_) ∧ Kd.R (Kd.int .i64) 3 w' w.heap.size (fun _ => True) v0_ r ∧ Below w.heap.size w w' := by
 obtain rfl := Option.some.inj h
 clear h
 have hu1 := Try.underlying31
 have hu2 := Try.underlying87
 have hbig : l0_2.length ≤ 9223372036854775807 := hr0_2.2.1
 obtain ⟨n, hn⟩ : ∃ n, n = l0_2.length := ⟨_, rfl⟩
 have HN := As_ hn
 have HR := As_ (show Kd.C k87 w A0_2 n l0_2 by rw [hn]; exact hr0_2)
 have HB := As_ (Below.refl w.heap.size w)
 have HBT := As_ (fun (b : Bool) (w1 : World) => impl_bit.calls b _ w1 (impl_bit.tot b))
 rw [← hn] at hbig ⊢
 clear hn hr0_2 hc0_2
 have hmk : ∀ W : World, (Instr.makeSlice 26 (.int .i64 4) (.int .i64 4)).run Try.prog W = .ok (.slice (some ⟨W.heap.size, 0, none⟩) 4 4) (W.alloc (.cells #[.int .i64 0, .int .i64 0, .int .i64 0, .int .i64 0] 3)) := fun W => by
  have h := print_make (P := Try.prog) 26 3 .i64 8 Try.underlying26 info3 (by decide) 4 (by decide) W
  rw [show ((4 : Nat) : Int) = 4 from rfl, show madeCells #[Value.int .i64 0] 4 = #[.int .i64 0, .int .i64 0, .int .i64 0, .int .i64 0] from by kernel_rfl] at h
  exact h
 have hb2 : ∀ A B : Obj, ((w.alloc A).alloc B).heap[w.heap.size + 1]? = some B := fun A B => by show ((w.heap.push A).push B)[w.heap.size + 1]? = some B; rw [Array.getElem?_push, if_pos (by simp)]
 have hb1 : ∀ A B : Obj, ((w.alloc A).alloc B).heap[w.heap.size]? = some A := fun A B => by show ((w.heap.push A).push B)[w.heap.size]? = some A; rw [Array.getElem?_push, if_neg (by simp), Array.getElem?_push, if_pos rfl]
 have HB2 := As_ hb2
 have HB1 := As_ hb1
 clear hb1 hb2
 go_enter Try.func74, Try.ntmps74
 go_wp2
 go_loopg [10] n (fun gg s10 wr => ∃ (i : Int) (x : Int × Int × Int × Int), 0 ≤ i ∧ i ≤ n ∧ Aside0 (n - i.toNat ≤ gg) ∧ s10 = .int .i64 i ∧ Aside0 (x = edCnt a0_0 a0_1 l0_2 i.toNat) ∧ Aside0 (Below w.heap.size w wr) ∧ Aside0 (wr.heap[w.heap.size]? = some (.cells #[.int .i64 a0_0, .int .i64 a0_1, .slice A0_2 n c0_2] 31 (0, 0))) ∧ Aside0 (wr.heap[w.heap.size + 1]? = some (.cells #[.int .i64 x.1, .int .i64 x.2.1, .int .i64 x.2.2.1, .int .i64 x.2.2.2] 3 (0, 0))))
 case atStart => exact ⟨0, (0, 0, 0, 0), by omega, by omega, ⟨by omega⟩, rfl, ⟨rfl⟩, ⟨below_alloc (below_alloc HB.out _) _⟩, ⟨HB1.out _ _⟩, ⟨HB2.out _ _⟩⟩
 case round =>
  obtain ⟨i, x, hi0, hin, hg, rfl, HX, BW, BC, BK⟩ := hrel
  have hwr : w.heap.size + 1 < wr.heap.size := blk_lt BK.out
  by_cases hlt : i < n
  case neg =>
   have e : i = n := by omega
   subst e
   go_wp2
   go_ret
   refine ⟨.slice (some ⟨w.heap.size + 1, 0, none⟩) 4 4, rfl, ?_, BW.out⟩
   have e := HX.out
   rw [Int.toNat_natCast] at e
   rw [← e]
   refine Kd.R_of_own ⟨?_, .inr ⟨w.heap.size + 1, 4, _, rfl, by omega, BK.out, by simp [edList], by unfold maxLen; omega, rfl, ?_⟩⟩ (fun _ _ => trivial)
   · simp [edList, encs]
   · simp [edList, encs]
  obtain ⟨ad, ea, hs0, hs1, hs2⟩ := at_T87 HR.out i hi0 hlt
  cases ea
  replace hs0 := (BW.out.cell (World.block_lt_of_cell? w _ hs0)).trans hs0
  replace hs1 := (BW.out.cell (World.block_lt_of_cell? w _ hs1)).trans hs1
  replace hs2 := (BW.out.cell (World.block_lt_of_cell? w _ hs2)).trans hs2
  have hne : ¬ w.heap.size + 1 = wr.heap.size := by omega
  have hne2 : ¬ w.heap.size = wr.heap.size := by omega
  obtain ⟨s, hs⟩ : ∃ s, s = rd_T87 l0_2 i := ⟨_, rfl⟩
  rw [← hs] at hs0 hs1 hs2
  have HS := As_ hs
  clear hs
  go_wp2
  obtain ⟨W1, hW1⟩ : ∃ W1, (wr.alloc (.cells #[.int .i64 s.f0, .int .i64 s.f1, .int .i64 s.f2] 87)).drewN 1 = W1 := ⟨_, rfl⟩
  have BW1 := As_ (below_at hW1 (below_alloc BW.out _))
  have BC1 := As_ (blk_at hW1 (blk_alloc BC.out _))
  have BK1 := As_ (blk_at hW1 (blk_alloc BK.out _))
  have BS1 := As_ (blk_at hW1 (heap_alloc_new wr _))
  refine tail_ 8 (by kernel_rfl) (by kernel_rfl) W1 hW1 ?_; clear hW1
  have hc0 := (blk_cell BC1.out 0).trans (show _ = some _ from rfl)
  have hc1 := (blk_cell BC1.out 1).trans (show _ = some _ from rfl)
  have hs0 := (blk_cell BS1.out 0).trans (show _ = some _ from rfl)
  have hs1 := (blk_cell BS1.out 1).trans (show _ = some _ from rfl)
  have hs2 := (blk_cell BS1.out 2).trans (show _ = some _ from rfl)
  have hk := (blk_cell BK1.out 0).trans (show _ = some _ from rfl)
  have hf := blk_frozen BK1.out 0
  simp only [List.take_succ_cons, List.take_zero, List.drop_succ_cons, List.drop_zero]
  repeat still_step
  still_call (bit_still _ _)
  repeat still_step
  refine wpStill_nil ?_
  go_wp2
  clear hc0 hc1 hs0 hs1 hs2 hk hf
  obtain ⟨W2, hW2⟩ : ∃ W2, (W1.setCell ⟨w.heap.size + 1, 0, none⟩ (.int .i64 (wrap64 (x.1 + bitI (s.f1 == 0))))).drewN 1 = W2 := ⟨_, rfl⟩
  have BW2 := As_ (below_at hW2 (below_set BW1.out (by omega)))
  have BC2 := As_ (blk_at hW2 (blk_far BC1.out (by simp) _))
  have BK2 := As_ (blk_at hW2 (blk_put BK1.out 0 (.int .i64 (wrap64 (x.1 + bitI (s.f1 == 0)))) rfl))
  have BS2 := As_ (blk_at hW2 (blk_far BS1.out (by simp; omega) _))
  refine tail_ 13 (by kernel_rfl) (by kernel_rfl) W2 hW2 ?_; clear hW2
  have hc0 := (blk_cell BC2.out 0).trans (show _ = some _ from rfl)
  have hc1 := (blk_cell BC2.out 1).trans (show _ = some _ from rfl)
  have hs0 := (blk_cell BS2.out 0).trans (show _ = some _ from rfl)
  have hs1 := (blk_cell BS2.out 1).trans (show _ = some _ from rfl)
  have hs2 := (blk_cell BS2.out 2).trans (show _ = some _ from rfl)
  have hk := (blk_cell BK2.out 1).trans (show _ = some _ from rfl)
  have hf := blk_frozen BK2.out 1
  simp only [List.take_succ_cons, List.take_zero, List.drop_succ_cons, List.drop_zero]
  repeat still_step
  still_call (bit_still _ _)
  repeat still_step
  refine wpStill_nil ?_
  go_wp2
  clear hc0 hc1 hs0 hs1 hs2 hk hf
  obtain ⟨W3, hW3⟩ : ∃ W3, (W2.setCell ⟨w.heap.size + 1, 1, none⟩ (.int .i64 (wrap64 (x.2.1 + bitI (wrap64 (s.f0 + s.f2) == a0_0))))).drewN 1 = W3 := ⟨_, rfl⟩
  have BW3 := As_ (below_at hW3 (below_set BW2.out (by omega)))
  have BC3 := As_ (blk_at hW3 (blk_far BC2.out (by simp) _))
  have BK3 := As_ (blk_at hW3 (blk_put BK2.out 1 (.int .i64 (wrap64 (x.2.1 + bitI (wrap64 (s.f0 + s.f2) == a0_0)))) rfl))
  have BS3 := As_ (blk_at hW3 (blk_far BS2.out (by simp; omega) _))
  refine tail_ 13 (by kernel_rfl) (by kernel_rfl) W3 hW3 ?_; clear hW3
  have hc0 := (blk_cell BC3.out 0).trans (show _ = some _ from rfl)
  have hc1 := (blk_cell BC3.out 1).trans (show _ = some _ from rfl)
  have hs0 := (blk_cell BS3.out 0).trans (show _ = some _ from rfl)
  have hs1 := (blk_cell BS3.out 1).trans (show _ = some _ from rfl)
  have hs2 := (blk_cell BS3.out 2).trans (show _ = some _ from rfl)
  have hk := (blk_cell BK3.out 2).trans (show _ = some _ from rfl)
  have hf := blk_frozen BK3.out 2
  simp only [List.take_succ_cons, List.take_zero, List.drop_succ_cons, List.drop_zero]
  repeat still_step
  still_call (bit_still _ _)
  repeat still_step
  refine wpStill_nil ?_
  go_wp2
  clear hc0 hc1 hs0 hs1 hs2 hk hf
  obtain ⟨W4, hW4⟩ : ∃ W4, (W3.setCell ⟨w.heap.size + 1, 2, none⟩ (.int .i64 (wrap64 (x.2.2.1 + bitI (wrap64 (s.f1 + s.f2) == a0_1))))).drewN 1 = W4 := ⟨_, rfl⟩
  have BW4 := As_ (below_at hW4 (below_set BW3.out (by omega)))
  have BC4 := As_ (blk_at hW4 (blk_far BC3.out (by simp) _))
  have BK4 := As_ (blk_at hW4 (blk_put BK3.out 2 (.int .i64 (wrap64 (x.2.2.1 + bitI (wrap64 (s.f1 + s.f2) == a0_1)))) rfl))
  have BS4 := As_ (blk_at hW4 (blk_far BS3.out (by simp; omega) _))
  refine tail_ 8 (by kernel_rfl) (by kernel_rfl) W4 hW4 ?_; clear hW4
  have hc0 := (blk_cell BC4.out 0).trans (show _ = some _ from rfl)
  have hc1 := (blk_cell BC4.out 1).trans (show _ = some _ from rfl)
  have hs0 := (blk_cell BS4.out 0).trans (show _ = some _ from rfl)
  have hs1 := (blk_cell BS4.out 1).trans (show _ = some _ from rfl)
  have hs2 := (blk_cell BS4.out 2).trans (show _ = some _ from rfl)
  have hk := (blk_cell BK4.out 3).trans (show _ = some _ from rfl)
  have hf := blk_frozen BK4.out 3
  simp only [List.take_succ_cons, List.take_zero, List.drop_succ_cons, List.drop_zero]
  repeat still_step
  still_call (bit_still _ _)
  repeat still_step
  refine wpStill_nil ?_
  go_wp2
  clear hc0 hc1 hs0 hs1 hs2 hk hf
  go_roundg (n - (i + 1).toNat)
  case measure => have := hg.out; omega
  case rel =>
   refine ⟨i + 1, (_, _, _, _), by omega, by omega, ⟨by omega⟩, by go_num, ⟨?_⟩, ⟨(below_set BW4.out (by omega))⟩, ⟨(blk_far BC4.out (by simp) _)⟩, ⟨(blk_put BK4.out 3 (.int .i64 (wrap64 (x.2.2.2 + bitI (s.f0 == 0)))) rfl)⟩⟩
   rw [show (i + 1).toNat = i.toNat + 1 by omega, edCnt, ← HX.out, show ((i.toNat : Nat) : Int) = i by omega, ← HS.out]
   rfl

end Go.Proofs.Ytipiaiolhhnnhaa.PFnExactMakePuzzle
