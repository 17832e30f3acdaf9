/- The plain law behind FnExactDropClue: what the program computes and what the reference computes answer alike, in numbers and lists alone. -/
import Derived.Test.YtmmdnenmkaimoaaPFnExactDropCluex0
import Derived.Test.YtmmdnenmkaimoaaPFnExactDropCluex1
import Derived.Test.YtmmdnenmkaimoaaPFnExactDropCluex2
import Derived.Test.YtmmdnenmkaimoaaPFnExactDropCluex3
import Derived.Test.YtmmdnenmkaimoaaPFnExactDropCluex4
import Derived.Test.YtmmdnenmkaimoaaPFnExactDropCluex7
import Derived.Test.YtmmdnenmkaimoaaPFnExactDropCluex8
import Derived.Test.YtmmdnenmkaimoaaPFnExactDropCluex9
import Derived.Test.YtmmdnenmkaimoaaH
namespace Go.Proofs.Ytmmdnenmkaimoaa.PFnExactDropClue
open Go.RowKit Go.Proofs.YtmmdnenmkaimoaaW.PrintWords Go.Proofs.YtmmdnenmkaimoaaW.PrintLast Go.Proofs.YtmmdnenmkaimoaaW.PrintMore Go.Proofs.YtmmdnenmkaimoaaH
set_option linter.unusedVariables false
set_option linter.unusedSimpArgs false
/-! clues: copies, comparisons, marks -/
def convC (c : S26) : S34 := ⟨c.f0, c.f1, c.f2⟩
theorem wrap_id {x : Int} (h0 : -9223372036854775808 ≤ x) (h1 : x ≤ 9223372036854775807) : wrap64 x = x := by unfold wrap64; omega
theorem rdT_laws (l : List S26) (i : Nat) (h : i < l.length) : rd_T26 l (i : Int) = l[i] := by simp [rd_T26, List.getD_eq_getElem?_getD, h]
theorem rdT_impl (l : List S34) (i : Nat) (h : i < l.length) : rd_T34 l (i : Int) = l[i] := by simp [rd_T34, List.getD_eq_getElem?_getD, h]
theorem toClueS_l0 (x0 : List S26) (hb : x0.length < 4611686018427387904) (d : Nat) : ∀ (k : Nat) (x3 : List S34) (i : Nat), i + d = x0.length → x3.length = x0.length → d < k →
    laws_toClueS.l0 k x0 x3 (i : Int) = some (x3.take i ++ (x0.drop i).map convC) := by
  induction d with
  | zero =>
    intro k x3 i hi hl hk
    obtain ⟨k, rfl⟩ : ∃ m, k = m + 1 := ⟨k - 1, by omega⟩
    simp only [laws_toClueS.l0]
    rw [if_neg (by omega)]
    have : i = x0.length := by omega
    subst this
    rw [List.take_of_length_le (by omega), List.drop_length]
    simp
  | succ d ih =>
    intro k x3 i hi hl hk
    obtain ⟨k, rfl⟩ : ∃ m, k = m + 1 := ⟨k - 1, by omega⟩
    have hlt : i < x0.length := by omega
    simp only [laws_toClueS.l0]
    rw [if_pos (by omega), if_pos (by omega)]
    simp only [laws_toClue.f, Option.bind_some]
    rw [if_pos (by omega), wrap_id (by omega) (by omega), rdT_laws x0 i hlt]
    have e : ((i : Int) + 1) = ((i + 1 : Nat) : Int) := by omega
    rw [e, ih k _ (i + 1) (by omega) (by simp; omega) (by omega)]
    congr 1
    rw [Int.toNat_natCast, List.take_succ_eq_append_getElem (by simp; omega), List.getElem_set_self, List.take_set_of_le (Nat.le_refl _), List.append_assoc]
    congr 1
    rw [List.drop_eq_getElem_cons hlt]
    rfl
theorem toClueS_eq (l : List S26) (k : Nat) (hk : l.length < k) (hb : l.length ≤ 11728124029610) : laws_toClueS.f k l = some (l.map convC) := by
  unfold laws_toClueS.f
  rw [if_pos (by omega), if_pos (by omega), show (0 : Int) = ((0 : Nat) : Int) from rfl, toClueS_l0 l (by omega) l.length k _ 0 (by omega) (by simp) hk]
  simp
theorem toPuzzle_eq (a b : Int) (l : List S26) (k : Nat) (hk : l.length < k) (hb : l.length ≤ 11728124029610) : laws_toPuzzle.f k a b l = some (a, b, l.map convC) := by
  unfold laws_toPuzzle.f
  rw [toClueS_eq l k hk hb]
  rfl
theorem szPuzzle_eq (a b : Int) (l : List S26) (hm : l.length ≤ 9223372036854775807) : laws_szPuzzle.f a b l 1048576 = some (if l.length ≤ 1048576 then 1048576 - (l.length : Int) else -1) := by
  unfold laws_szPuzzle.f laws_szClueS.f
  rw [wrap_id (by omega) (by omega)]
  by_cases h : l.length ≤ 1048576
  · rw [if_neg (by omega), if_pos h]
    simp only [Option.bind_some]
    rw [if_neg (by omega)]
  · rw [if_pos (by omega), if_neg h]
    simp
theorem eqClueS_l0 (x : List S34) (hb : x.length < 4611686018427387904) (d : Nat) : ∀ (k : Nat) (i : Nat), i + d = x.length → d < k → laws_eqClueS.l0 k x x (i : Int) = some true := by
  induction d with
  | zero =>
    intro k i hi hk
    obtain ⟨k, rfl⟩ : ∃ m, k = m + 1 := ⟨k - 1, by omega⟩
    simp only [laws_eqClueS.l0]
    rw [if_neg (by omega)]
  | succ d ih =>
    intro k i hi hk
    obtain ⟨k, rfl⟩ : ∃ m, k = m + 1 := ⟨k - 1, by omega⟩
    simp only [laws_eqClueS.l0]
    rw [if_pos (by omega), if_pos (by omega), if_pos (by omega)]
    simp only [laws_eqClue.f, if_true, Option.bind_some]
    rw [wrap_id (by omega) (by omega), show ((i : Int) + 1) = ((i + 1 : Nat) : Int) by omega, ih k (i + 1) (by omega) (by omega)]
theorem eqPuzzle_refl (a b : Int) (l : List S34) (k : Nat) (hk : l.length < k) (hb : l.length < 4611686018427387904) : laws_eqPuzzle.f k a b l a b l = some true := by
  unfold laws_eqPuzzle.f laws_eqClueS.f
  rw [if_pos rfl, if_pos rfl, if_pos rfl, show (0 : Int) = ((0 : Nat) : Int) from rfl, eqClueS_l0 l hb l.length k 0 (by omega) hk]
  rfl
/-- The marks that are put. -/
def marksC (m : Int) : Nat → List S34
  | 0 => []
  | n + 1 => ⟨m, m + 1, m + 1 + 1⟩ :: marksC (m + 1 + 1 + 1) n
theorem marksC_len (n : Nat) : ∀ m, (marksC m n).length = n := by
  induction n with
  | zero => intro m; rfl
  | succ n ih => intro m; simp [marksC, ih]
theorem markClueS_l0 (d : Nat) : ∀ (k : Nat) (x : List S34) (m : Int) (i : Nat), i + d = x.length → x.length < 1000000000000000000 → 0 ≤ m → m + 3 * d < 4611686018427387904 → d < k →
    laws_markClueS.l0 k x m (i : Int) = some (m + 3 * d, x.take i ++ marksC m d) := by
  induction d with
  | zero =>
    intro k x m i hi hx h0 hm hk
    obtain ⟨k, rfl⟩ : ∃ m, k = m + 1 := ⟨k - 1, by omega⟩
    simp only [laws_markClueS.l0]
    rw [if_neg (by omega), List.take_of_length_le (by omega)]
    simp [marksC]
  | succ d ih =>
    intro k x m i hi hx h0 hm hk
    obtain ⟨k, rfl⟩ : ∃ m, k = m + 1 := ⟨k - 1, by omega⟩
    simp only [laws_markClueS.l0]
    rw [if_pos (by omega), if_pos (by omega)]
    simp only [Option.bind_some, Int.toNat_natCast]
    rw [wrap_id (x := m + 1) (by omega) (by omega), wrap_id (x := m + 1 + 1) (by omega) (by omega), wrap_id (x := m + 1 + 1 + 1) (by omega) (by omega), wrap_id (x := (i : Int) + 1) (by omega) (by omega)]
    have hlt : i < x.length := by omega
    simp only [rdT_impl _ i (show i < (x.set i _).length by simpa using hlt), rdT_impl _ i (show i < ((x.set i _).set i _).length by simpa using hlt), List.getElem_set_self, List.set_set]
    rw [show ((i : Int) + 1) = ((i + 1 : Nat) : Int) by omega, ih k _ _ (i + 1) (by simp; omega) (by simpa using hx) (by omega) (by omega) (by omega)]
    congr 1
    rw [Prod.mk.injEq]
    refine ⟨by omega, ?_⟩
    rw [List.take_succ_eq_append_getElem (by simpa using hlt), List.getElem_set_self, List.take_set_of_le (Nat.le_refl _), List.append_assoc]
    rfl
theorem markPuzzle_eq (a b : Int) (l : List S34) (k : Nat) (hk : l.length < k) (hb : l.length < 1000000000000000000) : laws_markPuzzle.f k a b l 1 = some (1 + 3 * (l.length : Int), marksC 1 l.length) := by
  unfold laws_markPuzzle.f laws_markClueS.f
  rw [show (0 : Int) = ((0 : Nat) : Int) from rfl, markClueS_l0 l.length k l 1 0 (by omega) hb (by omega) (by omega) hk]
  simp
theorem heldClueS_l0 (d : Nat) : ∀ (k : Nat) (x : List S34) (m : Int) (i : Nat), i + d = x.length → x.drop i = marksC m d → x.length < 1000000000000000000 → 0 ≤ m → m + 3 * d < 4611686018427387904 → d < k →
    laws_heldClueS.l0 k x m (i : Int) = some (m + 3 * d) := by
  induction d with
  | zero =>
    intro k x m i hi hd hx h0 hm hk
    obtain ⟨k, rfl⟩ : ∃ m, k = m + 1 := ⟨k - 1, by omega⟩
    simp only [laws_heldClueS.l0]
    rw [if_neg (by omega)]
    simp
  | succ d ih =>
    intro k x m i hi hd hx h0 hm hk
    obtain ⟨k, rfl⟩ : ∃ m, k = m + 1 := ⟨k - 1, by omega⟩
    have hlt : i < x.length := by omega
    rw [List.drop_eq_getElem_cons hlt, marksC, List.cons.injEq] at hd
    obtain ⟨h1, h2⟩ := hd
    simp only [laws_heldClueS.l0]
    rw [if_pos (by omega), if_pos (by omega), rdT_impl x i hlt, h1]
    simp only
    rw [wrap_id (x := m + 1) (by omega) (by omega), wrap_id (x := m + 1 + 1) (by omega) (by omega), wrap_id (x := m + 1 + 1 + 1) (by omega) (by omega), wrap_id (x := (i : Int) + 1) (by omega) (by omega)]
    simp only [if_true]
    rw [show ((i : Int) + 1) = ((i + 1 : Nat) : Int) by omega, ih k x _ (i + 1) (by omega) h2 hx (by omega) (by omega) (by omega)]
    congr 1
    omega
theorem heldPuzzle_eq (a b : Int) (n : Nat) (k : Nat) (hk : n < k) (hb : n < 1000000000000000000) : laws_heldPuzzle.f k a b (marksC 1 n) 1 = some (1 + 3 * (n : Int)) := by
  unfold laws_heldPuzzle.f laws_heldClueS.f
  rw [show (0 : Int) = ((0 : Nat) : Int) from rfl, heldClueS_l0 n k (marksC 1 n) 1 0 (by rw [marksC_len]; omega) rfl (by rw [marksC_len]; omega) (by omega) (by omega) hk]
  simp only [Option.bind_some]
  rw [if_neg (by omega)]
/-! puzzles: the program's test is the reference's -/
theorem l1In_tot (a b c : Int) : spec_l1In.f a b c = some (decide (b ≤ a) && decide (a ≤ c)) := by
  unfold spec_l1In.f; by_cases h : b ≤ a <;> simp [h]
theorem pzSize_eq (w h : Int) : spec_pzSize.f w h = impl_isHidden.f w h := by
  unfold spec_pzSize.f spec_ctSize.f impl_isHidden.f impl_isCounted.f
  simp only [l1In_tot, impl_within.tot]
theorem pzClue_eq (w h x y z : Int) (hh : impl_isHidden.f w h = some true) : spec_pzClue.f w h x y z = impl_IsClue.f w h x y z := by
  unfold spec_pzClue.f impl_IsClue.f
  rw [hh]
  simp only [l1In_tot, impl_within.tot, Option.bind_some, if_true]
theorem pzGood_l0 (w h : Int) (hh : impl_isHidden.f w h = some true) (x : List S34) (hb : x.length < 4611686018427387904) (y : List S34) (d : Nat) : ∀ (k : Nat) (i : Nat), i + d = x.length → d < k →
    spec_pzGood.l0 k x (x.length : Int) (i : Int) w h y = some (!(x.drop i).any (fun c => !impl_IsPuzzle.ok w h c)) := by
  induction d with
  | zero =>
    intro k i hi hk
    obtain ⟨k, rfl⟩ : ∃ m, k = m + 1 := ⟨k - 1, by omega⟩
    simp only [spec_pzGood.l0]
    rw [if_neg (by omega), List.drop_of_length_le (by omega)]
    rfl
  | succ d ih =>
    intro k i hi hk
    obtain ⟨k, rfl⟩ : ∃ m, k = m + 1 := ⟨k - 1, by omega⟩
    have hlt : i < x.length := by omega
    simp only [spec_pzGood.l0]
    rw [if_pos (by omega), if_pos (by omega), if_pos (by omega), rdT_impl x i hlt, pzClue_eq _ _ _ _ _ hh, impl_IsPuzzle.ok_some, List.drop_eq_getElem_cons hlt]
    simp only [Option.bind_some, List.any_cons]
    by_cases ho : impl_IsPuzzle.ok w h x[i] = true
    · rw [if_pos ho, ho, wrap_id (by omega) (by omega), show ((i : Int) + 1) = ((i + 1 : Nat) : Int) by omega, ih k (i + 1) (by omega) (by omega)]
      simp
    · rw [if_neg ho]
      simp [ho]
theorem pzGood_eq (w h : Int) (l : List S34) (k : Nat) (hk : l.length + 2 < k) (hb : l.length < 4611686018427387904) : spec_pzGood.f k w h l = impl_IsPuzzle.f w h l := by
  unfold spec_pzGood.f impl_IsPuzzle.f
  rw [pzSize_eq]
  obtain ⟨r, hr⟩ := impl_isHidden.tot w h
  rw [hr]
  simp only [Option.bind_some]
  obtain ⟨k, rfl⟩ : ∃ m, k = m + 1 := ⟨k - 1, by omega⟩
  cases r with
  | false => rw [if_neg (by decide)]; simp [spec_pzGood.j0]
  | true =>
    rw [if_pos rfl]
    simp only [spec_pzGood.j0]
    by_cases h6 : l.length ≤ 6
    · rw [if_neg (by simp; omega), show (0 : Int) = ((0 : Nat) : Int) from rfl, pzGood_l0 w h hr l hb l l.length k 0 (by omega) (by omega)]
      simp [h6]
    · rw [if_pos (by simp; omega)]
      simp [h6]
/-- What a puzzle is told to be. -/
theorem IsPuzzle_some (w h : Int) (l : List S34) : ∃ b, impl_IsPuzzle.f w h l = some b ∧ (b = true → l.length ≤ 6 ∧ impl_isHidden.f w h = some true) := by
  obtain ⟨r, hr⟩ := impl_isHidden.tot w h
  refine ⟨r && decide (l.length ≤ 6) && !l.any (fun c => !impl_IsPuzzle.ok w h c), by simp [impl_IsPuzzle.f, hr], fun hb => ?_⟩
  simp only [Bool.and_eq_true, decide_eq_true_eq] at hb
  exact ⟨hb.1.2, by rw [hr, hb.1.1]⟩
theorem without_eq (l : List S34) (i : Nat) (hi : i < l.length) (hb : l.length ≤ 6) : spec_pzWithout.f l (i : Int) = some (l.eraseIdx i) := by
  unfold spec_pzWithout.f
  have h1 : (l.take i).length ≤ 6 := by rw [List.length_take]; omega
  have h2 : (l.drop (i + 1)).length ≤ 6 := by rw [List.length_drop]; omega
  rw [Option.bind_some, if_pos (by omega), if_pos (by omega), Option.bind_some, Int.toNat_natCast, if_pos (by rw [List.length_nil]; omega), Option.bind_some, wrap_id (by omega) (by omega), if_pos (by omega), if_pos (by omega), Option.bind_some, show ((i : Int) + 1).toNat = i + 1 by omega]
  rw [if_pos (by rw [List.nil_append]; omega), List.eraseIdx_eq_take_drop_succ, List.nil_append]
theorem dropped_eq (l : List S34) (i : Nat) (hi : i < l.length) (hb : l.length ≤ 6) : impl_dropped.f l (i : Int) = some (l.eraseIdx i) := by
  unfold impl_dropped.f impl_Clue_50.f
  rw [if_pos (by omega)]
  simp only [Option.bind_some]
  rw [if_pos (by omega), if_pos (by omega), Int.toNat_natCast]
theorem DropClue_spec (w h : Int) (l : List S34) (x : Int) (k : Nat) (hk : l.length + 2 < k) (hb : l.length ≤ 1048576) : ∃ r, spec_DropClue.f k w h l x = some r ∧ impl_DropClue.f w h l x = some r ∧ r.2.2.1.length ≤ l.length := by
  unfold spec_DropClue.f impl_DropClue.f
  rw [pzGood_eq w h l k hk (by omega)]
  obtain ⟨b, hp, hb2⟩ := IsPuzzle_some w h l
  rw [hp]
  obtain ⟨k, rfl⟩ : ∃ m, k = m + 1 := ⟨k - 1, by omega⟩
  simp only [Option.bind_some, spec_DropClue.j0]
  cases b with
  | false => exact ⟨_, rfl, rfl, by simp⟩
  | true =>
    obtain ⟨h6, hh⟩ := hb2 rfl
    simp only [if_true]
    rw [wrap_id (by omega) (by omega), l1In_tot, impl_within.tot]
    simp only [Option.bind_some]
    by_cases hx : 0 ≤ x ∧ x ≤ (l.length : Int) - 1
    · obtain ⟨h0, h1⟩ := hx
      obtain ⟨i, rfl⟩ : ∃ i : Nat, x = i := ⟨x.toNat, by omega⟩
      rw [decide_eq_true h0, decide_eq_true h1]
      simp only [Bool.and_self, Bool.not_true, Bool.false_eq_true, if_false, if_true]
      rw [without_eq l i (by omega) (by omega), dropped_eq l i (by omega) (by omega)]
      refine ⟨_, by simp [spec_pzWith.f], rfl, ?_⟩
      simp only
      rw [List.length_eraseIdx]
      split <;> omega
    · have : (decide (0 ≤ x) && decide (x ≤ (l.length : Int) - 1)) = false := by
        rw [Bool.and_eq_false_iff]
        by_cases h0 : 0 ≤ x
        · right; simp; omega
        · left; simp; omega
      rw [this]
      exact ⟨_, rfl, rfl, by simp⟩
theorem FnExactDropClue.pure (w h : Int) (l : List S26) (x : Int) (_ : (Lit.int .i64 w).wf = true) (_ : (Lit.int .i64 h).wf = true) (hm : l.length ≤ 9223372036854775807) (_ : ∀ y ∈ l, (Lit.int .i64 y.f0).wf = true ∧ (Lit.int .i64 y.f1).wf = true ∧ (Lit.int .i64 y.f2).wf = true)
    (_ : (Lit.int .i64 x).wf = true) : ∃ k, laws_FnExactDropClue.f k w h l x = some true := by
  by_cases hl : l.length ≤ 1048576
  · refine ⟨l.length + 20, ?_⟩
    unfold laws_FnExactDropClue.f
    rw [szPuzzle_eq _ _ _ hm, if_pos hl]
    simp only [Option.bind_some]
    rw [if_neg (by omega), toPuzzle_eq _ _ _ _ (by omega) (by omega)]
    simp only [Option.bind_some, laws_toClue.f]
    obtain ⟨r, h1, h2, h3⟩ := DropClue_spec w h (l.map convC) x (l.length + 20) (by rw [List.length_map]; omega) (by rw [List.length_map]; omega)
    simp only [List.length_map] at h3
    rw [h1, h2]
    simp only [Option.bind_some]
    rw [eqPuzzle_refl _ _ _ _ (by omega) (by omega)]
    simp only [Option.bind_some, if_true, bne_self_eq_false]
    simp only [laws_FnExactDropClue.j0]
    rw [toPuzzle_eq _ _ _ _ (by omega) (by omega)]
    simp only [Option.bind_some, Bool.false_eq_true, if_false]
    rw [eqPuzzle_refl _ _ _ _ (by first | omega | (simp <;> omega)) (by first | omega | (simp <;> omega))]
    simp only [Option.bind_some, if_true]
    rw [markPuzzle_eq _ _ _ _ (by first | omega | (simp <;> omega)) (by first | omega | (simp <;> omega))]
    simp only [Option.bind_some]
    rw [if_neg (by omega), eqPuzzle_refl _ _ _ _ (by omega) (by omega)]
    simp only [Option.bind_some, if_true]
    simp only [laws_FnExactDropClue.j1, bne_self_eq_false, Bool.false_eq_true, if_false]
    rw [markPuzzle_eq _ _ _ _ (by omega) (by omega)]
    simp only [Option.bind_some]
    rw [heldPuzzle_eq _ _ _ _ (by omega) (by omega)]
    simp only [Option.bind_some, if_true]
    rw [if_neg (by omega), toPuzzle_eq _ _ _ _ (by omega) (by omega)]
    simp only [Option.bind_some, laws_toClue.f]
    rw [h2]
    simp only [Option.bind_some]
    rw [eqPuzzle_refl _ _ _ _ (by omega) (by omega)]
    simp only [Option.bind_some, if_true, bne_self_eq_false]
    simp only [laws_FnExactDropClue.j2, bne_self_eq_false, Bool.false_eq_true, if_false]
    rw [heldPuzzle_eq _ _ _ _ (by omega) (by omega)]
    simp only [Option.bind_some, if_true]
    rw [if_neg (by omega)]
  · refine ⟨0, ?_⟩
    unfold laws_FnExactDropClue.f
    rw [szPuzzle_eq _ _ _ hm, if_neg hl]
    simp
end Go.Proofs.Ytmmdnenmkaimoaa.PFnExactDropClue
