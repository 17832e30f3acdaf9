-- Written by a program of this session (wip/tools/pg.py) out of the translation.
import Derived.Test.YtmmdnenmkaimoaaPFnExactDropCluex0
import Derived.Test.YtmmdnenmkaimoaaPFnExactDropCluex4
import Derived.Test.YtmmdnenmkaimoaaPFnExactDropCluex5
namespace Go.Proofs.Ytmmdnenmkaimoaa.PFnExactDropClue
open Go.RowKit Go.Proofs.YtmmdnenmkaimoaaW.PrintWords Go.Proofs.YtmmdnenmkaimoaaW.PrintLast Go.Proofs.YtmmdnenmkaimoaaW.PrintMore Go.Proofs.YtmmdnenmkaimoaaH
attribute [local go_sem] max2_int min2_int max_two min_two max_three min_three max_four min_four   -- for this text's walks alone
set_option linter.unusedVariables false
set_option linter.unusedSimpArgs false

/-! ### impl_IsPuzzle: function 48 (by hand) -/
theorem impl_within.tot (a b c : Int) : impl_within.f a b c = some (decide (b ≤ a) && decide (a ≤ c)) := by
  unfold impl_within.f; by_cases h : b ≤ a <;> simp [h]
theorem impl_isHidden.tot (a b : Int) : ∃ r, impl_isHidden.f a b = some r := by
  unfold impl_isHidden.f impl_isCounted.f
  simp only [impl_within.tot, Option.bind_some]
  split <;> simp only [Option.bind_some] <;> split <;> exact ⟨_, rfl⟩
theorem impl_IsClue.tot (a b x y z : Int) : ∃ r, impl_IsClue.f a b x y z = some r := by
  unfold impl_IsClue.f
  obtain ⟨r, hr⟩ := impl_isHidden.tot a b
  rw [hr]
  simp only [impl_within.tot, Option.bind_some]
  repeat' (first | exact ⟨_, rfl⟩ | split)
/-- Is a clue one of this size? -/
def impl_IsPuzzle.ok (a0 a1 : Int) (c : S34) : Bool := (impl_IsClue.f a0 a1 c.f0 c.f1 c.f2).getD false
theorem impl_IsPuzzle.ok_some (a0 a1 : Int) (c : S34) : impl_IsClue.f a0 a1 c.f0 c.f1 c.f2 = some (impl_IsPuzzle.ok a0 a1 c) := by
  obtain ⟨r, hr⟩ := impl_IsClue.tot a0 a1 c.f0 c.f1 c.f2
  simp [impl_IsPuzzle.ok, hr]
def impl_IsPuzzle.f (a0_0 : Int) (a0_1 : Int) (l0_2 : List (S34)) : Option Bool := (impl_isHidden.f a0_0 a0_1).bind fun t => some (t && decide (l0_2.length ≤ 6) && !l0_2.any (fun c => !impl_IsPuzzle.ok a0_0 a0_1 c))
theorem impl_IsPuzzle.pred (a0 a1 : Int) (v : Value) (g : Nat) (w : World) (hg : w.heap[g]? = some (.cells #[.int .i64 a0, .int .i64 a1, v] 30 (0, 0))) :
    PB Try.prog 85 #[.pointer (some ⟨g, 0, none⟩)] enc_Clue (fun c => !impl_IsPuzzle.ok a0 a1 c) w := by
  intro W x hb
  have h0 : W.cell? ⟨g, 0, none⟩ = some (.int .i64 a0) := (hb.cell (p := ⟨g, 0, none⟩) (blk_lt hg)).trans ((blk_cell hg 0).trans rfl)
  have h1 : W.cell? ⟨g, 1, none⟩ = some (.int .i64 a1) := (hb.cell (p := ⟨g, 1, none⟩) (blk_lt hg)).trans ((blk_cell hg 1).trans rfl)
  have hgW : g < W.heap.size := Nat.lt_of_lt_of_le (blk_lt hg) hb.size
  have hu30 := Try.underlying30
  have hu34 := Try.underlying34
  have hok := impl_IsPuzzle.ok_some a0 a1 x
  have hne : ¬ g = W.heap.size := by omega
  have hc := fun w1 => impl_IsClue.calls a0 a1 x.f0 x.f1 x.f2 (impl_IsPuzzle.ok a0 a1 x) w1 hok
  have HB := As_ hb
  clear hok hg hb
  show Calls Try.prog 85 #[enc_Clue x, .pointer (some ⟨g, 0, none⟩)] W (fun e w' => e = .returned (.bool (!impl_IsPuzzle.ok a0 a1 x)) ∧ Below w.heap.size w w')
  generalize impl_IsPuzzle.ok a0 a1 x = r at hc ⊢
  simp only [enc_Clue]
  go_enter Try.func85, Try.ntmps85
  go_wp2_with (go_at_call 49; refine (hc _).mono ?_; rintro e w' ⟨rfl, hb'⟩)
  go_ret
  exact ⟨rfl, (HB.out.alloc HB.out.size _).trans (hb'.mono (by have := HB.out.size; simp; omega))⟩
set_option maxHeartbeats 8000000 in
set_option maxRecDepth 100000 in
theorem impl_IsPuzzle.calls (a0_0 : Int) (a0_1 : Int) (A0_2 : Option Addr) (c0_2 : Nat) (l0_2 : List (S34)) (r : Bool) (w : World) (hr0_2 : Kd.C k34 w A0_2 l0_2.length l0_2) (hc0_2 : l0_2.length ≤ c0_2) (h : impl_IsPuzzle.f a0_0 a0_1 l0_2 = some r) :
    Calls Try.prog 48 #[.agg #[.int .i64 a0_0, .int .i64 a0_1, .slice A0_2 l0_2.length c0_2]] w fun e w' => e = .returned (.bool r) ∧ Below w.heap.size w w' := by
  have hu30 := Try.underlying30
  have HR := As_ hr0_2
  have HC := As_ hc0_2
  clear hr0_2 hc0_2
  unfold impl_IsPuzzle.f at h
  obtain ⟨t, ht, h⟩ := Option.bind_eq_some_iff.mp h
  obtain rfl := Option.some.inj h
  clear h
  have eg : ∀ args w, (callFunc 85 args).run Try.prog w = .ok (.enter 85 args) w := enters_of Try.func85 (by kernel_rfl) rfl
  have hH := fun w1 => impl_isHidden.calls a0_0 a0_1 t w1 ht
  have hD := fun w1 => drawn_below (hH w1)
  have HB := As_ (Below.refl w.heap.size w)
  clear ht hH
  cases t with
  | false =>
    simp only [Bool.false_and]
    go_enter Try.func48, Try.ntmps48
    go_wp2_with (go_at_call 83; refine (hD _).mono ?_; rintro e w' ⟨rfl, hb⟩)
    go_ret
    exact ⟨rfl, (HB.out.alloc HB.out.size _).trans (hb.mono (by simp))⟩
  | true =>
    by_cases hl : l0_2.length ≤ 6
    · have hl1 : decide (l0_2.length ≤ 6) = true := decide_eq_true hl
      rw [hl1]
      simp only [Bool.true_and, Bool.and_true]
      have hcon : ∀ W, Below w.heap.size w W → (∃ v, W.heap[w.heap.size]? = some (.cells #[.int .i64 a0_0, .int .i64 a0_1, v] 30 (0, 0))) → Calls Try.prog 84 #[.slice A0_2 l0_2.length c0_2, .func (.func 85) #[] #[.pointer (some ⟨w.heap.size, 0, none⟩)]] W fun e w' => e = .returned (.bool (l0_2.any fun c => !impl_IsPuzzle.ok a0_0 a0_1 c)) ∧ Below W.heap.size W w' := by
        intro W hb ⟨v, hv⟩
        exact containsFunc_Clue _ _ _ eg _ _ _ _ _ (Kd.C_below HR.out hb) (by omega) (impl_IsPuzzle.pred a0_0 a0_1 v w.heap.size W hv)
      generalize l0_2.any (fun c => !impl_IsPuzzle.ok a0_0 a0_1 c) = q at hcon ⊢
      have HL := As_ hl
      have hL : decide ((l0_2.length : Int) ≤ 6) = true := decide_eq_true (by omega)
      have hL2 : decide (l0_2.length ≤ 6) = true := decide_eq_true hl
      clear hl hl1 HR HC eg
      go_enter Try.func48, Try.ntmps48
      go_wp2_with (first
        | (go_at_call 83; refine (hD _).mono ?_; rintro e w1 ⟨rfl, hb⟩; obtain ⟨hc0, hf0⟩ := bcell' hb)
        | (go_at_call 84; refine (hcon _ ((HB.out.alloc HB.out.size _).trans (hb.mono (by simp))) ⟨_, (hb.block _ (by simp)).trans (heap_alloc_new w _)⟩).mono ?_; rintro e w2 ⟨rfl, hb2⟩))
      go_ret
      exact ⟨rfl, ((HB.out.alloc HB.out.size _).trans (hb.mono (by simp))).trans (hb2.mono (by have := hb.size; simp at this; omega))⟩
    · have hl1 : decide (l0_2.length ≤ 6) = false := decide_eq_false hl
      rw [hl1]
      simp only [Bool.true_and, Bool.false_and, Bool.and_false]
      have HL := As_ hl
      have hL : decide ((l0_2.length : Int) ≤ 6) = false := decide_eq_false (by omega)
      clear hl
      go_enter Try.func48, Try.ntmps48
      go_wp2_with (go_at_call 83; refine (hD _).mono ?_; rintro e w1 ⟨rfl, hb⟩; obtain ⟨hc0, hf0⟩ := bcell' hb)
      go_ret
      exact ⟨rfl, (HB.out.alloc HB.out.size _).trans (hb.mono (by simp))⟩

/-! ### impl_Clue_50: function 50 (by hand) -/
def impl_Clue_50.f (l0 : List (S34)) : Option (List (S34)) := if l0.length < 5864062014805 then some l0 else none
set_option maxHeartbeats 8000000 in
set_option maxRecDepth 100000 in
theorem impl_Clue_50.calls (A0 : Option Addr) (c0 : Nat) (l0 : List (S34)) (r : List (S34)) (w : World) (hr0 : Kd.C k34 w A0 l0.length l0) (hc0 : l0.length ≤ c0) (h : impl_Clue_50.f l0 = some r) :
    Calls Try.prog 50 #[.slice A0 l0.length c0] w fun e w' => ∃ v0_ : Value, e = .returned (v0_) ∧ Kd.R k34 34 w' w.heap.size (fun _ => True) v0_ r ∧ Below w.heap.size w w' := by
  have hu34 := Try.underlying34
  unfold impl_Clue_50.f at h
  split at h
  case isFalse => exact absurd h (by simp)
  rename_i hlt
  obtain rfl := Option.some.inj h
  have heq := fun W n c n' c' A => Lib.run_eql_slice_nil (P := Try.prog) W 28 34 A n c n' c' Try.underlying28
  cases A0 with
  | none =>
    have hl0 : l0 = [] := by
      by_cases hz : 0 < l0.length
      · obtain ⟨ad, e, _⟩ := hr0.2.2 hz; cases e
      · exact List.eq_nil_of_length_eq_zero (by omega)
    subst hl0
    clear hr0 hc0 hlt h
    go_enter Try.func50, Try.ntmps50
    go_wp2
    go_ret
    exact ⟨_, rfl, Kd.R_nil _ _ _ _ _, Below.refl _ _⟩
  | some ad =>
    have HR0 := As_ hr0
    have HB := As_ (Below.refl w.heap.size w)
    have HL := As_ hlt
    clear hr0 hc0 hlt h
    go_enter Try.func50, Try.ntmps50
    go_wp2_with (first
      | ((with_reducible refine gate_dst (N := 5) rfl ?_); refine Kd.R_lit k34 _ 34 ?hg (N := 5) ?hd (xs := ([] : List S34)) (inner := []) (ok := fun _ => True) (okp := fun _ => True) ?hr ?hp (fun _ hk => hk) trivial (Below.refl _ _) (Nat.le_refl _) (by simp) ?_; (case hd => rfl); (case hg => rfl); (case hr => first | (go_simp; done) | (go_simp; rfl)); (case hp => exact (Reps.none _ _)); intro v113 w3 ho4 hb hg_ hnew_; clear hg_ hnew_; have n0_ := As_ (Kd.R_lower ho4 (Nat.le_refl _)); have n1_ := As_ hb; clear HB; have HO114 := n0_; have HB := n1_; clear n0_ n1_; clear hb ho4)
      | ((with_reducible refine gate_builtin (b := .append) (xs := #[.tmp 5, .tmp 6]) rfl ?_); at_builtin; refine Kd.R_append_rows k34 (w0 := w) w.heap.size rfl (.tmp 5) (.tmp 6) 28 34 _ 24 rfl Try.underlying28 info34 rfl (by decide) (by omega) v113 [] l0 _ _ _ (fun _ => True) (fun _ => False) rfl rfl HO114.out (Kd.C_below HR0.out HB.out) ?aM (fun _ h => h.elim) (fun _ _ => trivial) HB.out (below_size HB.out) (by have := HL.out; simp; omega) ?_; (case aM => exact fun x cs hk => by obtain rfl := k34_open hk; exact k34_mkM _ _ _ x); intro v116 w5 ho hb hg hat; clear HO114; clear HB; have HB := As_ hb; have HO117 := As_ ho; clear ho hb hg hat))
    go_ret
    exact ⟨_, rfl, HO117.out, HB.out⟩

/-! ### impl_Clue_87: function 87 (by hand) -/
theorem zero_Clue (w : World) : (zeroValue 34).run Try.prog w = .ok (.agg #[.int .i64 0, .int .i64 0, .int .i64 0]) w := by kernel_rfl
set_option maxHeartbeats 8000000 in
set_option maxRecDepth 100000 in
theorem delete_Clue (ok : Nat → Prop) (g c i : Nat) (l : List S34) (w0 w : World) (hB : Below w0.heap.size w0 w) (ho : Kd.R k34 34 w w0.heap.size ok (.slice (some ⟨g, 0, none⟩) l.length c) l) (hi : i < l.length) :
    Calls Try.prog 87 #[.slice (some ⟨g, 0, none⟩) l.length c, .int .i64 (i : Int), .int .i64 ((i : Int) + 1)] w fun e w' => ∃ v0_ : Value, e = .returned (v0_) ∧ Kd.R k34 34 w' w0.heap.size ok v0_ (l.eraseIdx i) ∧ Below w0.heap.size w0 w' := by
  have hu34 := Try.underlying34
  obtain ⟨q1, q2, q3, q4, hnc, hcm, hgb⟩ := R_block ho
  clear q2 q3 q4
  unfold maxLen at hcm
  have hic : i ≤ c := by omega
  have hic2 : i + 1 ≤ c := by omega
  have hz1 : 0 ≤ (i : Int) + 1 := by omega
  have hz2 : (i : Int) + 1 ≤ (l.length : Int) := by omega
  have hz3 : (i : Int) ≤ (l.length : Int) := by omega
  have hz4 : ((i : Int) + 1).toNat = i + 1 := by omega
  have HO := As_ ho
  have HB := As_ hB
  clear ho hB
  go_enter Try.func87, Try.ntmps87
  go_wp2_with fail
  go_region_law (refine Kd.R_delete_step k34 (w0 := w0) w0.heap.size rfl (.tmp 22) (.tmp 25) 28 34 rfl Try.underlying28 (by kernel_rfl) (g := g) (n := l.length) (c := c) (k := i) rfl rfl (by show _ = if c = i + 1 then _ else some ((⟨g, 0, none⟩ : Addr).add ((i + 1) * 3)); rw [add_plain]) rfl (by (with_reducible repeat (first | apply Kd.R_drewN | apply Kd.R_drew)); exact HO.out) hi (by repeat (first | exact HB.out | apply pw_below_drewN | apply below_drew1)) HB.out.size ?_; intro w5 ho hb hg; have HO2 := As_ ho; have HB2 := As_ hb; clear ho hb hg)
  obtain ⟨cur, hcur, hsz, hx1, hx2, hx3, hx4⟩ := R_block HO2.out
  clear hx1 hx2 hx3 hx4
  have hle : (l.eraseIdx i).length = l.length - 1 := by rw [List.length_eraseIdx, if_pos hi]
  have hsz' : cur.size = c * 3 := hsz
  have hcl := fun ty => run_clear_one (P := Try.prog) w5 28 34 ty _ [.int .i64 0, .int .i64 0, .int .i64 0] Try.underlying28 zero_Clue rfl (by decide) (by intro v hv; simp at hv; subst hv; rfl) g ((l.length - 1) * 3) (l.length - (l.length - 1)) (c - (l.length - 1)) (by omega)
    (fun j hj => by rw [blk_cell hcur]; have : (l.length - 1) * 3 + j < cur.size := by { simp at hj; omega }; simp [this]) (fun j hj => blk_frozen hcur _)
  have HF := As_ (Kd.R_mono (R_tail HO2.out [.int .i64 0, .int .i64 0, .int .i64 0] ((l.length - 1) * 3) (by rw [hle]; exact Nat.le_refl _) (by show (l.length - 1) * 3 + 3 ≤ c * 3; omega)) (fun _ h => h))
  have HB3 := As_ (show Below w0.heap.size w0 (w5.setCells g ((l.length - 1) * 3) [.int .i64 0, .int .i64 0, .int .i64 0]) from ((HB2.out.setCell hgb _).setCell hgb _).setCell hgb _)
  clear hcur hsz hsz' hle HO2 HB2
  have hk1 : 0 ≤ ((l.length - 1 : Nat) : Int) := by omega
  have hk2 : ((l.length - 1 : Nat) : Int) ≤ (l.length : Int) := by omega
  have hk3 : l.length ≤ c := hnc
  have hk5 : ¬ c = l.length - 1 := by omega
  have hk6 : l.length - 1 ≤ l.length := by omega
  have hk7 : l.length - 1 ≤ c := by omega
  have hk4 : (l.length : Int) ≤ (c : Int) := by omega
  go_wp2
  all_goals
    go_ret
    first
    | exact ⟨.slice (some ⟨g, 0, none⟩) (l.length - 1) c, rfl, HF.out, HB3.out⟩
    | (obtain rfl : c = i + 1 := by assumption
       exact ⟨.slice (some ⟨g, 0, none⟩) (l.length - 1) (i + 1), rfl, HF.out, HB3.out⟩)

/-! ### impl_dropped: function 57 (by hand) -/
def impl_dropped.f (l0 : List (S34)) (a1 : Int) : Option (List (S34)) := (impl_Clue_50.f l0).bind fun t => if 0 ≤ a1 then if a1 < (t.length : Int) then some (t.eraseIdx a1.toNat) else none else none
set_option maxHeartbeats 8000000 in
set_option maxRecDepth 100000 in
theorem impl_dropped.calls (A0 : Option Addr) (c0 : Nat) (l0 : List (S34)) (a1 : Int) (r : List (S34)) (w : World) (hr0 : Kd.C k34 w A0 l0.length l0) (hc0 : l0.length ≤ c0) (h : impl_dropped.f l0 a1 = some r) :
    Calls Try.prog 57 #[.slice A0 l0.length c0, .int .i64 a1] w fun e w' => ∃ v0_ : Value, e = .returned (v0_) ∧ Kd.R k34 34 w' w.heap.size (fun _ => True) v0_ r ∧ Below w.heap.size w w' := by
  unfold impl_dropped.f at h
  obtain ⟨t, ht, h⟩ := Option.bind_eq_some_iff.mp h
  by_cases h0 : 0 ≤ a1
  case neg => rw [if_neg h0] at h; exact absurd h (by simp)
  rw [if_pos h0] at h
  by_cases h1 : a1 < (t.length : Int)
  case neg => rw [if_neg h1] at h; exact absurd h (by simp)
  rw [if_pos h1] at h
  obtain rfl := Option.some.inj h
  have hbig : t.length ≤ 9223372036854775807 := by
    unfold impl_Clue_50.f at ht
    split at ht
    · obtain rfl := Option.some.inj ht; omega
    · cases ht
  obtain ⟨i, rfl⟩ : ∃ i : Nat, a1 = i := ⟨a1.toNat, by omega⟩
  have hcl := fun w1 hh => impl_Clue_50.calls A0 c0 l0 t w1 hh hc0 ht
  have HR := As_ hr0
  have hw1 : (i : Int) + 1 ≤ 9223372036854775807 := by omega
  have hi : i < t.length := by omega
  clear h h1 ht hr0
  rw [Int.toNat_natCast]
  go_enter Try.func57, Try.ntmps57
  go_wp2_with (first
    | (go_at_call 50; refine (hcl _ HR.out).mono ?_; rintro e w1 ⟨v, rfl, ho, hb⟩; obtain ⟨g, c, rfl, _, _⟩ := Kd.R_form ho (by omega))
    | (go_at_call 87; refine (delete_Clue (fun _ => True) g c i t w w1 hb ho hi).mono ?_; rintro e w2 ⟨v2, rfl, ho2, hb2⟩))
  go_ret
  exact ⟨_, rfl, ho2, hb2⟩

end Go.Proofs.Ytmmdnenmkaimoaa.PFnExactDropClue
