/- The plain law behind FnExactMakePuzzle: what the program computes and what the reference computes answer alike, in numbers and lists alone. -/
import Derived.Test.YtipiaiolhhnnhaaPFnExactMakePuzzlex0
import Derived.Test.YtipiaiolhhnnhaaPFnExactMakePuzzlex1
import Derived.Test.YtipiaiolhhnnhaaPFnExactMakePuzzlex2
import Derived.Test.YtipiaiolhhnnhaaPFnExactMakePuzzlex3
import Derived.Test.YtipiaiolhhnnhaaPFnExactMakePuzzlex4
import Derived.Test.YtipiaiolhhnnhaaPFnExactMakePuzzlex9
import Derived.Test.YtipiaiolhhnnhaaPFnExactMakePuzzlex10
import Derived.Test.YtipiaiolhhnnhaaPFnExactMakePuzzlex11
import Derived.Test.YtipiaiolhhnnhaaPFnExactMakePuzzlex13
import Derived.Test.YtipiaiolhhnnhaaPFnExactMakePuzzlex14
import Derived.Test.YtipiaiolhhnnhaaPFnExactMakePuzzlex15
import Derived.Test.YtipiaiolhhnnhaaPFnExactMakePuzzlex23
import Derived.Test.YtipiaiolhhnnhaaPFnExactMakePuzzlex24
import Derived.Test.YtipiaiolhhnnhaaPFnExactMakePuzzlex25
import Derived.Test.YtipiaiolhhnnhaaPFnExactMakePuzzlex26
import Derived.Test.YtipiaiolhhnnhaaPFnExactMakePuzzlex27
import Derived.Test.YtipiaiolhhnnhaaH
namespace Go.Proofs.Ytipiaiolhhnnhaa.PFnExactMakePuzzle
open Go.RowKit Go.Proofs.YtipiaiolhhnnhaaW.PrintWords Go.Proofs.YtipiaiolhhnnhaaW.PrintLast Go.Proofs.YtipiaiolhhnnhaaW.PrintMore Go.Proofs.YtipiaiolhhnnhaaH
set_option linter.unusedVariables false
set_option linter.unusedSimpArgs false
/-! cuts: the program's test is the reference's -/
theorem wrap_id {x : Int} (h0 : -9223372036854775808 ≤ x) (h1 : x ≤ 9223372036854775807) : wrap64 x = x := by unfold wrap64; omega
theorem l1In_tot (a b c : Int) : spec_l1In.f a b c = some (winB a b c) := by
  unfold spec_l1In.f winB; by_cases h : b ≤ a <;> simp [h]
theorem rdS (l : List S87) (i : Nat) (h : i < l.length) : rd_T87 l (i : Int) = l[i] := by simp [rd_T87, List.getD_eq_getElem?_getD, h]
theorem over_eq (s q : S87) : impl_IsCut.over s q = (decide (s.f0 < wrap64 (q.f0 + q.f2)) && decide (q.f0 < wrap64 (s.f0 + s.f2)) && decide (s.f1 < wrap64 (q.f1 + q.f2)) && decide (q.f1 < wrap64 (s.f1 + s.f2))) := by
  unfold impl_IsCut.over impl_overlap.f
  by_cases h1 : s.f0 < wrap64 (q.f0 + q.f2)
  · by_cases h2 : q.f0 < wrap64 (s.f0 + s.f2)
    · by_cases h3 : s.f1 < wrap64 (q.f1 + q.f2) <;> simp [h1, h2, h3]
    · simp [h1, h2]
  · simp [h1]
def lessB (p s : S87) : Bool := decide (p.f1 < s.f1) || (decide (p.f1 = s.f1) && decide (p.f0 < s.f0))
theorem cuLess_eq (p s : S87) : spec_cuLess.f p.f0 p.f1 p.f2 s.f0 s.f1 s.f2 = some (lessB p s) := by
  unfold spec_cuLess.f lessB
  by_cases h1 : p.f1 < s.f1
  · simp [h1]
  · by_cases h2 : p.f1 = s.f1
    · have : ¬ s.f1 < s.f1 := by omega
      simp [h2]
    · simp [h1, h2]
def badB (l : List S87) (i : Nat) (s : S87) (j : Nat) : Bool := impl_IsCut.over s (rd_T87 l (j : Int)) || (decide (j + 1 = i) && !lessB (rd_T87 l (j : Int)) s)
theorem take_rd (l : List S87) (i j : Nat) (h : j < i) (hi : i ≤ l.length) : rd_T87 (l.take i) (j : Int) = rd_T87 l (j : Int) := by
  rw [rdS _ _ (by simp; omega), rdS _ _ (by omega), List.getElem_take]
theorem cuGood_l1 (l : List S87) (w h : Int) (i : Nat) (hi : i < l.length) (hl : l.length ≤ 30) (s : S87) (ar : Int) (d : Nat) : ∀ (k j : Nat), j + d = i → 2 * d + 1 ≤ k →
    spec_cuGood.l1 k ar (i : Int) l (l.length : Int) (i : Int) (l.take i) ((l.take i).length : Int) (j : Int) w h l s.f0 s.f1 s.f2 = if (List.range' j d).any (badB l i s) = true then some false else spec_cuGood.l0 (k - (2 * d + 1)) ar l (l.length : Int) (wrap64 ((i : Int) + 1)) w h l := by
  have htl : (l.take i).length = i := by rw [List.length_take]; omega
  induction d with
  | zero =>
    intro k j hj hk
    obtain ⟨k, rfl⟩ : ∃ m, k = m + 1 := ⟨k - 1, by omega⟩
    simp only [spec_cuGood.l1]
    rw [if_neg (by omega)]
    simp
  | succ d ih =>
    intro k j hj hk
    obtain ⟨k, rfl⟩ : ∃ m, k = m + 1 + 1 := ⟨k - 2, by omega⟩
    have hji : j < i := by omega
    simp only [spec_cuGood.l1]
    rw [if_pos (by omega), if_pos (by omega), if_pos (by omega)]
    rw [take_rd l i j hji (by omega), List.range'_succ, List.any_cons]
    have hb : badB l i s j = (impl_IsCut.over s (rd_T87 l (j : Int)) || (decide (j + 1 = i) && !lessB (rd_T87 l (j : Int)) s)) := rfl
    have ih' := ih k (j + 1) (by omega) (by omega)
    rw [show (((j + 1 : Nat) : Int)) = (j : Int) + 1 by omega] at ih'
    have hk2 : k + 1 + 1 - (2 * (d + 1) + 1) = k - (2 * d + 1) := by omega
    rw [hk2]
    generalize rd_T87 l (j : Int) = q at hb ⊢
    have hj4 : ∀ b : Bool, b = impl_IsCut.over s q → spec_cuGood.j4 (k + 1) ar (i : Int) (j : Int) l (l.length : Int) (i : Int) (l.take i) ((l.take i).length : Int) (j : Int) b w h l s.f0 s.f1 s.f2 q.f0 q.f1 q.f2 = if (badB l i s j || (List.range' (j + 1) d).any (badB l i s)) = true then some false else spec_cuGood.l0 (k - (2 * d + 1)) ar l (l.length : Int) (wrap64 ((i : Int) + 1)) w h l := by
      intro b hbo
      simp only [spec_cuGood.j4]
      rw [hb, ← hbo]
      cases b with
      | true => simp
      | false =>
        simp only [Bool.false_or, Bool.false_eq_true, if_false]
        rw [wrap_id (x := (i : Int) - 1) (by omega) (by omega), wrap_id (x := (j : Int) + 1) (by omega) (by omega)]
        by_cases hl1 : j + 1 = i
        · rw [if_pos (by omega), cuLess_eq]
          simp only [Option.bind_some]
          rw [decide_eq_true hl1]
          cases hls : lessB q s with
          | true => simp only [if_true, Bool.not_true, Bool.and_false, Bool.false_or]; exact ih'
          | false => simp
        · rw [if_neg (by omega), decide_eq_false hl1]
          simp only [Bool.false_and, Bool.false_or]
          exact ih'
    have ho := over_eq s q
    by_cases c1 : s.f0 < wrap64 (q.f0 + q.f2)
    · rw [if_pos c1]
      by_cases c2 : q.f0 < wrap64 (s.f0 + s.f2)
      · rw [if_pos c2]
        by_cases c3 : s.f1 < wrap64 (q.f1 + q.f2)
        · rw [if_pos c3]
          exact hj4 _ (by rw [ho]; simp [c1, c2, c3])
        · rw [if_neg c3]
          exact hj4 _ (by rw [ho]; simp [c1, c2, c3])
      · rw [if_neg c2]
        exact hj4 _ (by rw [ho]; simp [c1, c2])
    · rw [if_neg c1]
      exact hj4 _ (by rw [ho]; simp [c1])
theorem mn_le (a b : Int) : mn a b ≤ a ∧ mn a b ≤ b ∧ (mn a b = a ∨ mn a b = b) := by unfold mn; split <;> omega
/-- Both ranges let in the same squares. -/
theorem rng_eq (w h : Int) (s : S87) (hw : 1 ≤ w ∧ w ≤ 500) (hh : 1 ≤ h ∧ h ≤ 500) :
    (winB s.f2 1 500 && winB s.f0 0 (wrap64 (w - s.f2)) && winB s.f1 0 (wrap64 (h - s.f2))) = (winB s.f2 1 (mn w h) && winB s.f0 0 (wrap64 (w - s.f2)) && winB s.f1 0 (wrap64 (h - s.f2))) := by
  obtain ⟨m1, m2, m3⟩ := mn_le w h
  unfold winB
  by_cases h1 : 1 ≤ s.f2 ∧ s.f2 ≤ 500
  · rw [wrap_id (x := w - s.f2) (by omega) (by omega), wrap_id (x := h - s.f2) (by omega) (by omega)]
    rw [Bool.eq_iff_iff]
    simp only [Bool.and_eq_true, decide_eq_true_eq]
    omega
  · have : (decide (1 ≤ s.f2) && decide (s.f2 ≤ 500)) = false := by
      rw [Bool.and_eq_false_iff]; simp only [decide_eq_false_iff_not]; omega
    rw [this]
    have h2 : (decide (1 ≤ s.f2) && decide (s.f2 ≤ mn w h)) = false := by
      rw [Bool.and_eq_false_iff]; simp only [decide_eq_false_iff_not]; omega
    rw [h2]
/-- In range. -/
def inR (w h : Int) (s : S87) : Prop := 1 ≤ s.f2 ∧ s.f2 ≤ w ∧ s.f2 ≤ h ∧ 0 ≤ s.f0 ∧ s.f0 + s.f2 ≤ w ∧ 0 ≤ s.f1 ∧ s.f1 + s.f2 ≤ h
theorem inR_of (w h : Int) (s : S87) (hw : 1 ≤ w ∧ w ≤ 500) (hh : 1 ≤ h ∧ h ≤ 500) (hs : (winB s.f2 1 (mn w h) && winB s.f0 0 (wrap64 (w - s.f2)) && winB s.f1 0 (wrap64 (h - s.f2))) = true) : inR w h s := by
  obtain ⟨m1, m2, m3⟩ := mn_le w h
  unfold winB at hs
  simp only [Bool.and_eq_true, decide_eq_true_eq] at hs
  obtain ⟨⟨⟨h1, h2⟩, h3, h4⟩, h5, h6⟩ := hs
  rw [wrap_id (x := w - s.f2) (by omega) (by omega)] at h4
  rw [wrap_id (x := h - s.f2) (by omega) (by omega)] at h6
  exact ⟨h1, by omega, by omega, h3, by omega, h5, by omega⟩
theorem cmp_eq (w h : Int) (p s : S87) (hw : 1 ≤ w ∧ w ≤ 500) (hh : 1 ≤ h ∧ h ≤ 500) (hp : inR w h p) (hs : inR w h s) : decide (0 ≤ impl_IsCut.cmp p s) = !lessB p s := by
  unfold inR at hp hs
  unfold impl_IsCut.cmp impl_comparePlaces.f lessB
  by_cases e : p.f1 = s.f1
  · have e2 : ¬ p.f1 < s.f1 := by omega
    simp only [e, if_true, Option.getD_some, decide_true, Bool.true_and]
    rw [wrap_id (by omega) (by omega)]
    rw [Bool.eq_iff_iff]
    simp
  · simp only [e, if_false, Option.getD_some, decide_false, Bool.false_and, Bool.or_false]
    rw [wrap_id (by omega) (by omega)]
    rw [Bool.eq_iff_iff]
    simp
theorem ok_inR (w h : Int) (l : List S87) (i : Nat) (hw : 1 ≤ w ∧ w ≤ 500) (hh : 1 ≤ h ∧ h ≤ 500) (hk : impl_IsCut.ok w h l (i : Int) = true) : inR w h (rd_T87 l (i : Int)) := by
  unfold impl_IsCut.ok at hk
  rw [Bool.and_eq_true, Bool.and_eq_true] at hk
  exact inR_of w h _ hw hh hk.1.1
theorem any_bad (l : List S87) (i : Nat) (hi : i < l.length) (s : S87) :
    (List.range' 0 i).any (badB l i s) = ((decide (0 < i) && !lessB (rd_T87 l ((i : Int) - 1)) s) || (l.take i).any (fun t => impl_IsCut.over s t)) := by
  rw [Bool.eq_iff_iff]
  simp only [List.any_eq_true, List.mem_range'_1, Bool.or_eq_true, Bool.and_eq_true, decide_eq_true_eq]
  constructor
  · rintro ⟨j, hj, hb⟩
    unfold badB at hb
    rw [Bool.or_eq_true, Bool.and_eq_true, decide_eq_true_eq] at hb
    rcases hb with hb | ⟨hb, hc⟩
    · right
      refine ⟨rd_T87 l (j : Int), ?_, hb⟩
      rw [rdS l j (by omega)]
      rw [List.mem_take_iff_getElem]
      exact ⟨j, by omega, rfl⟩
    · left
      refine ⟨by omega, ?_⟩
      rw [show (i : Int) - 1 = (j : Int) by omega]
      exact hc
  · rintro (⟨h0, hc⟩ | ⟨t, ht, hb⟩)
    · refine ⟨i - 1, by omega, ?_⟩
      unfold badB
      rw [show (((i - 1 : Nat) : Int)) = (i : Int) - 1 by omega, hc, decide_eq_true (by omega : i - 1 + 1 = i)]
      simp
    · rw [List.mem_take_iff_getElem] at ht
      obtain ⟨j, hj, rfl⟩ := ht
      refine ⟨j, by omega, ?_⟩
      unfold badB
      rw [rdS l j (by omega), hb]
      simp
theorem cuGood_l0 (l : List S87) (w h : Int) (hw : 1 ≤ w ∧ w ≤ 500) (hh : 1 ≤ h ∧ h ≤ 500) (hl : l.length ≤ 30) (d : Nat) : ∀ (k i : Nat), i + d = l.length → 63 * d < k → (∀ j : Nat, j < i → impl_IsCut.ok w h l (j : Int) = true) →
    spec_cuGood.l0 k (impl_IsCut.area l i) l (l.length : Int) (i : Int) w h l = some ((List.range' i d).all (fun j => impl_IsCut.ok w h l (j : Int)) && decide (impl_IsCut.area l l.length = wrap64 (w * h))) := by
  induction d with
  | zero =>
    intro k i hi hk hok
    obtain ⟨k, rfl⟩ : ∃ m, k = m + 1 := ⟨k - 1, by omega⟩
    have : i = l.length := by omega
    subst this
    simp only [spec_cuGood.l0]
    rw [if_neg (by omega)]
    simp only [List.range'_zero, List.all_nil, Bool.true_and]
    congr 1
  | succ d ih =>
    intro k i hi hk hok
    obtain ⟨k, rfl⟩ : ∃ m, k = m + 1 + 1 := ⟨k - 2, by omega⟩
    have hil : i < l.length := by omega
    have hrng := rng_eq w h (rd_T87 l (i : Int)) hw hh
    have hokd : impl_IsCut.ok w h l (i : Int) = (winB (rd_T87 l (i : Int)).f2 1 (mn w h) && winB (rd_T87 l (i : Int)).f0 0 (wrap64 (w - (rd_T87 l (i : Int)).f2)) && winB (rd_T87 l (i : Int)).f1 0 (wrap64 (h - (rd_T87 l (i : Int)).f2)) &&
      !(decide (0 < (i : Int)) && decide (0 ≤ impl_IsCut.cmp (rd_T87 l ((i : Int) - 1)) (rd_T87 l (i : Int)))) && !(l.take i).any (fun t => impl_IsCut.over (rd_T87 l (i : Int)) t)) := rfl
    have har : impl_IsCut.area l (i + 1) = wrap64 (impl_IsCut.area l i + wrap64 ((rd_T87 l (i : Int)).f2 * (rd_T87 l (i : Int)).f2)) := rfl
    rw [List.range'_succ, List.all_cons]
    simp only [spec_cuGood.l0]
    rw [if_pos (by omega), if_pos (by omega), if_pos (by omega)]
    simp only [l1In_tot, Option.bind_some]
    have hprev : 0 < i → inR w h (rd_T87 l ((i : Int) - 1)) := by
      intro h0
      have := ok_inR w h l (i - 1) hw hh (hok (i - 1) (by omega))
      rwa [show (((i - 1 : Nat) : Int)) = (i : Int) - 1 by omega] at this
    obtain ⟨s, hs⟩ : ∃ s, s = rd_T87 l (i : Int) := ⟨_, rfl⟩
    rw [← hs] at hrng hokd har ⊢
    have hno : ∀ b : Bool, b = true → (winB s.f2 1 500 && winB s.f0 0 (wrap64 (w - s.f2)) && winB s.f1 0 (wrap64 (h - s.f2))) = false → spec_cuGood.j2 (k + 1) (impl_IsCut.area l i) (i : Int) l (l.length : Int) (i : Int) b w h l s.f0 s.f1 s.f2 = some (impl_IsCut.ok w h l (i : Int) && (List.range' (i + 1) d).all (fun j => impl_IsCut.ok w h l (j : Int)) && decide (impl_IsCut.area l l.length = wrap64 (w * h))) := by
      intro b hb hf
      rw [hokd, ← hrng, hf]
      simp [spec_cuGood.j2, hb]
    cases b1 : winB s.f2 1 500 with
    | false => simp only [Bool.false_eq_true, if_false]; exact hno _ rfl (by simp [b1])
    | true =>
      simp only [if_true]
      cases b2 : winB s.f0 0 (wrap64 (w - s.f2)) with
      | false => simp only [Bool.false_eq_true, if_false]; exact hno _ rfl (by simp [b2])
      | true =>
        simp only [if_true]
        cases b3 : winB s.f1 0 (wrap64 (h - s.f2)) with
        | false => exact hno _ rfl (by simp [b3])
        | true =>
          have hin := inR_of w h s hw hh (by rw [← hrng, b1, b2, b3]; rfl)
          have hrt := show (winB s.f2 1 (mn w h) && winB s.f0 0 (wrap64 (w - s.f2)) && winB s.f1 0 (wrap64 (h - s.f2))) = true by rw [← hrng, b1, b2, b3]; rfl
          simp only [spec_cuGood.j2, Bool.not_true, Bool.false_eq_true, if_false]
          rw [if_pos (by omega), if_pos (by omega)]
          simp only [Option.bind_some, Int.toNat_natCast]
          rw [← har, show (0 : Int) = ((0 : Nat) : Int) from rfl, cuGood_l1 l w h i hil hl s _ i k 0 (by omega) (by omega), any_bad l i hil s]
          have hokr : impl_IsCut.ok w h l (i : Int) = !((decide (0 < i) && !lessB (rd_T87 l ((i : Int) - 1)) s) || (l.take i).any (fun t => impl_IsCut.over s t)) := by
            rw [hokd, hrt]
            have : (decide (0 < (i : Int)) && decide (0 ≤ impl_IsCut.cmp (rd_T87 l ((i : Int) - 1)) s)) = (decide (0 < i) && !lessB (rd_T87 l ((i : Int) - 1)) s) := by
              by_cases h0 : 0 < i
              · rw [cmp_eq w h _ s hw hh (hprev h0) hin, decide_eq_true h0, decide_eq_true (by omega : (0 : Int) < (i : Int))]
              · rw [decide_eq_false h0, decide_eq_false (by omega : ¬ (0 : Int) < (i : Int))]; rfl
            rw [this]
            simp
          rw [hokr]
          cases hv : ((decide (0 < i) && !lessB (rd_T87 l ((i : Int) - 1)) s) || (l.take i).any (fun t => impl_IsCut.over s t)) with
          | true => simp
          | false =>
            rw [hv] at hokr
            simp only [Bool.false_eq_true, if_false, Bool.not_false, Bool.true_and]
            rw [wrap_id (by omega) (by omega), show ((i : Int) + 1) = ((i + 1 : Nat) : Int) by omega]
            refine ih _ (i + 1) (by omega) (by omega) (fun j hj => ?_)
            by_cases e : j = i
            · subst e; rw [hokr]; rfl
            · exact hok j (by omega)
/-- THE CUTS: both tests tell the same. -/
theorem cuGood_eq (w h : Int) (l : List S87) (k : Nat) (hk : 2000 ≤ k) (hl : l.length ≤ 9223372036854775807) : spec_cuGood.f k w h l = impl_IsCut.f w h l := by
  unfold spec_cuGood.f impl_IsCut.f
  simp only [l1In_tot, Option.bind_some]
  obtain ⟨k, rfl⟩ : ∃ m, k = m + 1 := ⟨k - 1, by omega⟩
  cases b1 : winB w 1 500 with
  | false => simp [spec_cuGood.j0]
  | true =>
    cases b2 : winB h 1 500 with
    | false => simp [spec_cuGood.j0]
    | true =>
      simp only [if_true, Bool.true_and]
      have hw : 1 ≤ w ∧ w ≤ 500 := by unfold winB at b1; simpa using b1
      have hh : 1 ≤ h ∧ h ≤ 500 := by unfold winB at b2; simpa using b2
      by_cases h30 : l.length ≤ 30
      · by_cases h0 : l.length = 0
        · have : l = [] := List.eq_nil_of_length_eq_zero h0
          subst this
          have hb : winB ((([] : List S87).length : Nat) : Int) 1 30 = false := by decide
          rw [hb]
          simp only [spec_cuGood.j0, Bool.not_false, if_true, List.length_nil]
          have hp : 1 ≤ w * h ∧ w * h ≤ 250000 := ⟨Int.mul_pos (by omega) (by omega), by have := Int.mul_le_mul hw.2 hh.2 (by omega) (by omega); omega⟩
          have : impl_IsCut.all w h [] = false := by
            unfold impl_IsCut.all
            rw [wrap_id (by omega) (by omega)]
            simp only [List.length_nil, impl_IsCut.area]
            rw [decide_eq_false (by omega)]
            simp
          rw [this]
          simp
        · have hb : winB (l.length : Int) 1 30 = true := by unfold winB; simp; omega
          rw [hb]
          simp only [spec_cuGood.j0, Bool.not_true, Bool.false_eq_true, if_false]
          have := cuGood_l0 l w h hw hh h30 l.length k 0 (by omega) (by omega) (fun j hj => by omega)
          rw [show ((0 : Nat) : Int) = 0 from rfl] at this
          rw [show impl_IsCut.area l 0 = 0 from rfl] at this
          rw [this, decide_eq_true h30]
          simp [impl_IsCut.all, List.range_eq_range']
      · have hb : winB (l.length : Int) 1 30 = false := by unfold winB; simp; omega
        rw [hb, decide_eq_false h30]
        simp [spec_cuGood.j0]
/-! squares: copies, comparisons, marks -/
def convS (c : S89) : S87 := ⟨c.f0, c.f1, c.f2⟩
theorem rdT_lawsS (l : List S89) (i : Nat) (h : i < l.length) : rd_T89 l (i : Int) = l[i] := by simp [rd_T89, List.getD_eq_getElem?_getD, h]
theorem rdT_implS (l : List S87) (i : Nat) (h : i < l.length) : rd_T87 l (i : Int) = l[i] := by simp [rd_T87, List.getD_eq_getElem?_getD, h]
theorem toSquareS_l0 (x0 : List S89) (hb : x0.length < 4611686018427387904) (d : Nat) : ∀ (k : Nat) (x3 : List S87) (i : Nat), i + d = x0.length → x3.length = x0.length → d < k →
    laws_toSquareS.l0 k x0 x3 (i : Int) = some (x3.take i ++ (x0.drop i).map convS) := by
  induction d with
  | zero =>
    intro k x3 i hi hl hk
    obtain ⟨k, rfl⟩ : ∃ m, k = m + 1 := ⟨k - 1, by omega⟩
    simp only [laws_toSquareS.l0]
    rw [if_neg (by omega)]
    have : i = x0.length := by omega
    subst this
    rw [List.take_of_length_le (by omega), List.drop_length]
    simp
  | succ d ih =>
    intro k x3 i hi hl hk
    obtain ⟨k, rfl⟩ : ∃ m, k = m + 1 := ⟨k - 1, by omega⟩
    have hlt : i < x0.length := by omega
    simp only [laws_toSquareS.l0]
    rw [if_pos (by omega), if_pos (by omega)]
    simp only [laws_toSquare.f, Option.bind_some]
    rw [if_pos (by omega), wrap_id (by omega) (by omega), rdT_lawsS x0 i hlt]
    have e : ((i : Int) + 1) = ((i + 1 : Nat) : Int) := by omega
    rw [e, ih k _ (i + 1) (by omega) (by simp; omega) (by omega)]
    congr 1
    rw [Int.toNat_natCast, List.take_succ_eq_append_getElem (by simp; omega), List.getElem_set_self, List.take_set_of_le (Nat.le_refl _), List.append_assoc]
    congr 1
    rw [List.drop_eq_getElem_cons hlt]
    rfl
theorem toSquareS_eq (l : List S89) (k : Nat) (hk : l.length < k) (hb : l.length ≤ 11728124029610) : laws_toSquareS.f k l = some (l.map convS) := by
  unfold laws_toSquareS.f
  rw [if_pos (by omega), if_pos (by omega), show (0 : Int) = ((0 : Nat) : Int) from rfl, toSquareS_l0 l (by omega) l.length k _ 0 (by omega) (by simp) hk]
  simp
theorem toCut_eq (a b : Int) (l : List S89) (k : Nat) (hk : l.length < k) (hb : l.length ≤ 11728124029610) : laws_toCut.f k a b l = some (a, b, l.map convS) := by
  unfold laws_toCut.f
  rw [toSquareS_eq l k hk hb]
  rfl
theorem szCut_eq (a b : Int) (l : List S89) (hm : l.length ≤ 9223372036854775807) : laws_szCut.f a b l 1048576 = some (if l.length ≤ 1048576 then 1048576 - (l.length : Int) else -1) := by
  unfold laws_szCut.f laws_szSquareS.f
  rw [wrap_id (by omega) (by omega)]
  by_cases h : l.length ≤ 1048576
  · rw [if_neg (by omega), if_pos h]
    simp only [Option.bind_some]
    rw [if_neg (by omega)]
  · rw [if_pos (by omega), if_neg h]
    simp
theorem eqSquareS_l0 (x : List S87) (hb : x.length < 4611686018427387904) (d : Nat) : ∀ (k : Nat) (i : Nat), i + d = x.length → d < k → laws_eqSquareS.l0 k x x (i : Int) = some true := by
  induction d with
  | zero =>
    intro k i hi hk
    obtain ⟨k, rfl⟩ : ∃ m, k = m + 1 := ⟨k - 1, by omega⟩
    simp only [laws_eqSquareS.l0]
    rw [if_neg (by omega)]
  | succ d ih =>
    intro k i hi hk
    obtain ⟨k, rfl⟩ : ∃ m, k = m + 1 := ⟨k - 1, by omega⟩
    simp only [laws_eqSquareS.l0]
    rw [if_pos (by omega), if_pos (by omega), if_pos (by omega)]
    simp only [laws_eqSquare.f, if_true, Option.bind_some]
    rw [wrap_id (by omega) (by omega), show ((i : Int) + 1) = ((i + 1 : Nat) : Int) by omega, ih k (i + 1) (by omega) (by omega)]
theorem eqCut_refl (a b : Int) (l : List S87) (k : Nat) (hk : l.length < k) (hb : l.length < 4611686018427387904) : laws_eqCut.f k a b l a b l = some true := by
  unfold laws_eqCut.f laws_eqSquareS.f
  rw [if_pos rfl, if_pos rfl, if_pos rfl, show (0 : Int) = ((0 : Nat) : Int) from rfl, eqSquareS_l0 l hb l.length k 0 (by omega) hk]
  rfl
/-- The marks that are put. -/
def marksS (m : Int) : Nat → List S87
  | 0 => []
  | n + 1 => ⟨m, m + 1, m + 1 + 1⟩ :: marksS (m + 1 + 1 + 1) n
theorem marksS_len (n : Nat) : ∀ m, (marksS m n).length = n := by
  induction n with
  | zero => intro m; rfl
  | succ n ih => intro m; simp [marksS, ih]
theorem markSquareS_l0 (d : Nat) : ∀ (k : Nat) (x : List S87) (m : Int) (i : Nat), i + d = x.length → x.length < 1000000000000000000 → 0 ≤ m → m + 3 * d < 4611686018427387904 → d < k →
    laws_markSquareS.l0 k x m (i : Int) = some (m + 3 * d, x.take i ++ marksS m d) := by
  induction d with
  | zero =>
    intro k x m i hi hx h0 hm hk
    obtain ⟨k, rfl⟩ : ∃ m, k = m + 1 := ⟨k - 1, by omega⟩
    simp only [laws_markSquareS.l0]
    rw [if_neg (by omega), List.take_of_length_le (by omega)]
    simp [marksS]
  | succ d ih =>
    intro k x m i hi hx h0 hm hk
    obtain ⟨k, rfl⟩ : ∃ m, k = m + 1 := ⟨k - 1, by omega⟩
    simp only [laws_markSquareS.l0]
    rw [if_pos (by omega), if_pos (by omega)]
    simp only [Option.bind_some, Int.toNat_natCast]
    rw [wrap_id (x := m + 1) (by omega) (by omega), wrap_id (x := m + 1 + 1) (by omega) (by omega), wrap_id (x := m + 1 + 1 + 1) (by omega) (by omega), wrap_id (x := (i : Int) + 1) (by omega) (by omega)]
    have hlt : i < x.length := by omega
    simp only [rdT_implS _ i (show i < (x.set i _).length by simpa using hlt), rdT_implS _ i (show i < ((x.set i _).set i _).length by simpa using hlt), List.getElem_set_self, List.set_set]
    rw [show ((i : Int) + 1) = ((i + 1 : Nat) : Int) by omega, ih k _ _ (i + 1) (by simp; omega) (by simpa using hx) (by omega) (by omega) (by omega)]
    congr 1
    rw [Prod.mk.injEq]
    refine ⟨by omega, ?_⟩
    rw [List.take_succ_eq_append_getElem (by simpa using hlt), List.getElem_set_self, List.take_set_of_le (Nat.le_refl _), List.append_assoc]
    rfl
theorem markCut_eq (a b : Int) (l : List S87) (k : Nat) (hk : l.length < k) (hb : l.length < 1000000000000000000) : laws_markCut.f k a b l 1 = some (1 + 3 * (l.length : Int), marksS 1 l.length) := by
  unfold laws_markCut.f laws_markSquareS.f
  rw [show (0 : Int) = ((0 : Nat) : Int) from rfl, markSquareS_l0 l.length k l 1 0 (by omega) hb (by omega) (by omega) hk]
  simp
/-! puzzles: comparisons, marks -/
theorem rdT_impl (l : List S42) (i : Nat) (h : i < l.length) : rd_T42 l (i : Int) = l[i] := by simp [rd_T42, List.getD_eq_getElem?_getD, h]
theorem eqClueS_l0 (x : List S42) (hb : x.length < 4611686018427387904) (d : Nat) : ∀ (k : Nat) (i : Nat), i + d = x.length → d < k → laws_eqClueS.l0 k x x (i : Int) = some true := by
  induction d with
  | zero =>
    intro k i hi hk
    obtain ⟨k, rfl⟩ : ∃ m, k = m + 1 := ⟨k - 1, by omega⟩
    simp only [laws_eqClueS.l0]
    rw [if_neg (by omega)]
  | succ d ih =>
    intro k i hi hk
    obtain ⟨k, rfl⟩ : ∃ m, k = m + 1 := ⟨k - 1, by omega⟩
    simp only [laws_eqClueS.l0]
    rw [if_pos (by omega), if_pos (by omega), if_pos (by omega)]
    simp only [laws_eqClue.f, if_true, Option.bind_some]
    rw [wrap_id (by omega) (by omega), show ((i : Int) + 1) = ((i + 1 : Nat) : Int) by omega, ih k (i + 1) (by omega) (by omega)]
theorem eqPuzzle_refl (a b : Int) (l : List S42) (k : Nat) (hk : l.length < k) (hb : l.length < 4611686018427387904) : laws_eqPuzzle.f k a b l a b l = some true := by
  unfold laws_eqPuzzle.f laws_eqClueS.f
  rw [if_pos rfl, if_pos rfl, if_pos rfl, show (0 : Int) = ((0 : Nat) : Int) from rfl, eqClueS_l0 l hb l.length k 0 (by omega) hk]
  rfl
/-- The marks that are put. -/
def marksC (m : Int) : Nat → List S42
  | 0 => []
  | n + 1 => ⟨m, m + 1, m + 1 + 1⟩ :: marksC (m + 1 + 1 + 1) n
theorem marksC_len (n : Nat) : ∀ m, (marksC m n).length = n := by
  induction n with
  | zero => intro m; rfl
  | succ n ih => intro m; simp [marksC, ih]
theorem markClueS_l0 (d : Nat) : ∀ (k : Nat) (x : List S42) (m : Int) (i : Nat), i + d = x.length → x.length < 1000000000000000000 → 0 ≤ m → m + 3 * d < 4611686018427387904 → d < k →
    laws_markClueS.l0 k x m (i : Int) = some (m + 3 * d, x.take i ++ marksC m d) := by
  induction d with
  | zero =>
    intro k x m i hi hx h0 hm hk
    obtain ⟨k, rfl⟩ : ∃ m, k = m + 1 := ⟨k - 1, by omega⟩
    simp only [laws_markClueS.l0]
    rw [if_neg (by omega), List.take_of_length_le (by omega)]
    simp [marksC]
  | succ d ih =>
    intro k x m i hi hx h0 hm hk
    obtain ⟨k, rfl⟩ : ∃ m, k = m + 1 := ⟨k - 1, by omega⟩
    simp only [laws_markClueS.l0]
    rw [if_pos (by omega), if_pos (by omega)]
    simp only [Option.bind_some, Int.toNat_natCast]
    rw [wrap_id (x := m + 1) (by omega) (by omega), wrap_id (x := m + 1 + 1) (by omega) (by omega), wrap_id (x := m + 1 + 1 + 1) (by omega) (by omega), wrap_id (x := (i : Int) + 1) (by omega) (by omega)]
    have hlt : i < x.length := by omega
    simp only [rdT_impl _ i (show i < (x.set i _).length by simpa using hlt), rdT_impl _ i (show i < ((x.set i _).set i _).length by simpa using hlt), List.getElem_set_self, List.set_set]
    rw [show ((i : Int) + 1) = ((i + 1 : Nat) : Int) by omega, ih k _ _ (i + 1) (by simp; omega) (by simpa using hx) (by omega) (by omega) (by omega)]
    congr 1
    rw [Prod.mk.injEq]
    refine ⟨by omega, ?_⟩
    rw [List.take_succ_eq_append_getElem (by simpa using hlt), List.getElem_set_self, List.take_set_of_le (Nat.le_refl _), List.append_assoc]
    rfl
theorem markPuzzle_eq (a b : Int) (l : List S42) (k : Nat) (hk : l.length < k) (hb : l.length < 1000000000000000000) : laws_markPuzzle.f k a b l 1 = some (1 + 3 * (l.length : Int), marksC 1 l.length) := by
  unfold laws_markPuzzle.f laws_markClueS.f
  rw [show (0 : Int) = ((0 : Nat) : Int) from rfl, markClueS_l0 l.length k l 1 0 (by omega) hb (by omega) (by omega) hk]
  simp
theorem heldClueS_l0 (d : Nat) : ∀ (k : Nat) (x : List S42) (m : Int) (i : Nat), i + d = x.length → x.drop i = marksC m d → x.length < 1000000000000000000 → 0 ≤ m → m + 3 * d < 4611686018427387904 → d < k →
    laws_heldClueS.l0 k x m (i : Int) = some (m + 3 * d) := by
  induction d with
  | zero =>
    intro k x m i hi hd hx h0 hm hk
    obtain ⟨k, rfl⟩ : ∃ m, k = m + 1 := ⟨k - 1, by omega⟩
    simp only [laws_heldClueS.l0]
    rw [if_neg (by omega)]
    simp
  | succ d ih =>
    intro k x m i hi hd hx h0 hm hk
    obtain ⟨k, rfl⟩ : ∃ m, k = m + 1 := ⟨k - 1, by omega⟩
    have hlt : i < x.length := by omega
    rw [List.drop_eq_getElem_cons hlt, marksC, List.cons.injEq] at hd
    obtain ⟨h1, h2⟩ := hd
    simp only [laws_heldClueS.l0]
    rw [if_pos (by omega), if_pos (by omega), rdT_impl x i hlt, h1]
    simp only
    rw [wrap_id (x := m + 1) (by omega) (by omega), wrap_id (x := m + 1 + 1) (by omega) (by omega), wrap_id (x := m + 1 + 1 + 1) (by omega) (by omega), wrap_id (x := (i : Int) + 1) (by omega) (by omega)]
    simp only [if_true]
    rw [show ((i : Int) + 1) = ((i + 1 : Nat) : Int) by omega, ih k x _ (i + 1) (by omega) h2 hx (by omega) (by omega) (by omega)]
    congr 1
    omega
theorem heldPuzzle_eq (a b : Int) (n : Nat) (k : Nat) (hk : n < k) (hb : n < 1000000000000000000) : laws_heldPuzzle.f k a b (marksC 1 n) 1 = some (1 + 3 * (n : Int)) := by
  unfold laws_heldPuzzle.f laws_heldClueS.f
  rw [show (0 : Int) = ((0 : Nat) : Int) from rfl, heldClueS_l0 n k (marksC 1 n) 1 0 (by rw [marksC_len]; omega) rfl (by rw [marksC_len]; omega) (by omega) (by omega) hk]
  simp only [Option.bind_some]
  rw [if_neg (by omega)]
/-! All ways to fill a small rectangle: a list of squares in order that do not overlap, with the right area, is one of these. -/
/-- The cells of a square, as bits. -/
def tlMask (w x y s : Nat) : Nat := (List.range s).foldl (fun m j => m ||| ((2 ^ s - 1) <<< ((y + j) * w + x))) 0
def tlAll (P : List S87 → Bool) (w h : Nat) : Nat → Nat → Nat → List S87 → Bool
  | 0, _, area, acc => if area = w * h then P acc.reverse else true
  | n + 1, mask, area, acc =>
    tlAll P w h n mask area acc &&
    (List.range (min (w - (w * h - (n + 1)) % w) (h - (w * h - (n + 1)) / w))).all fun j =>
      if mask &&& tlMask w ((w * h - (n + 1)) % w) ((w * h - (n + 1)) / w) (j + 1) = 0 then
        tlAll P w h n (mask ||| tlMask w ((w * h - (n + 1)) % w) ((w * h - (n + 1)) / w) (j + 1)) (area + (j + 1) * (j + 1)) (⟨(((w * h - (n + 1)) % w : Nat) : Int), (((w * h - (n + 1)) / w : Nat) : Int), ((j + 1 : Nat) : Int)⟩ :: acc)
      else true
def tlPos (w : Nat) (s : S87) : Nat := s.f1.toNat * w + s.f0.toNat
def tlM (w : Nat) (s : S87) : Nat := tlMask w s.f0.toNat s.f1.toNat s.f2.toNat
def tlSum (l : List S87) : Nat := (l.map fun s => s.f2.toNat * s.f2.toNat).sum
theorem tlPos_lt (w h : Nat) (s : S87) (hs : inR w h s) : tlPos w s < w * h := by
  unfold inR at hs
  unfold tlPos
  have h1 : s.f1.toNat + 1 ≤ h := by omega
  have h2 : s.f0.toNat < w := by omega
  have h3 : (s.f1.toNat + 1) * w ≤ h * w := Nat.mul_le_mul_right _ h1
  rw [Nat.add_mul, Nat.one_mul] at h3
  rw [Nat.mul_comm w h]
  omega
theorem tlAll_of (P : List S87 → Bool) (w h : Nat) (hw : 0 < w) : ∀ (n mask area : Nat) (acc rest : List S87), n ≤ w * h → tlAll P w h n mask area acc = true → (∀ s ∈ rest, inR w h s) → (∀ s ∈ rest, w * h - n ≤ tlPos w s) →
    rest.Pairwise (fun a b => tlPos w a < tlPos w b) → rest.Pairwise (fun a b => tlM w a &&& tlM w b = 0) → (∀ s ∈ rest, mask &&& tlM w s = 0) → area + tlSum rest = w * h → P (acc.reverse ++ rest) = true
  | 0, mask, area, acc, rest, hn, ht, hr, hp, ho, hd, hm, ha => by
    cases rest with
    | nil =>
      simp only [tlAll] at ht
      rw [if_pos (by simpa [tlSum] using ha)] at ht
      simpa using ht
    | cons s rest =>
      have h1 := hp s (by simp)
      have h2 := tlPos_lt w h s (hr s (by simp))
      omega
  | n + 1, mask, area, acc, rest, hn, ht, hr, hp, ho, hd, hm, ha => by
    simp only [tlAll, Bool.and_eq_true] at ht
    obtain ⟨ht1, ht2⟩ := ht
    by_cases hh : ∀ s ∈ rest, w * h - n ≤ tlPos w s
    · exact tlAll_of P w h hw n mask area acc rest (by omega) ht1 hr hh ho hd hm ha
    · cases rest with
      | nil => exact absurd (by simp) hh
      | cons s rest =>
        rw [List.pairwise_cons] at ho hd
        have hs : tlPos w s = w * h - (n + 1) := by
          have h1 := hp s (by simp)
          by_cases e : w * h - n ≤ tlPos w s
          · exfalso
            apply hh
            intro t ht
            rcases List.mem_cons.1 ht with rfl | ht
            · exact e
            · have := ho.1 t ht; omega
          · omega
        have hin := hr s (by simp)
        unfold inR at hin
        have hx : s.f0.toNat < w := by omega
        have hmod : (w * h - (n + 1)) % w = s.f0.toNat := by
          rw [← hs]; unfold tlPos; rw [Nat.add_comm, Nat.add_mul_mod_self_right, Nat.mod_eq_of_lt hx]
        have hdiv : (w * h - (n + 1)) / w = s.f1.toNat := by
          rw [← hs]; unfold tlPos; rw [Nat.add_comm, Nat.add_mul_div_right _ _ hw, Nat.div_eq_of_lt hx, Nat.zero_add]
        rw [hmod, hdiv, List.all_eq_true] at ht2
        have h3 := ht2 (s.f2.toNat - 1) (by rw [List.mem_range]; omega)
        have hs1 : s.f2.toNat - 1 + 1 = s.f2.toNat := by omega
        rw [hs1] at h3
        have hms : mask &&& tlMask w s.f0.toNat s.f1.toNat s.f2.toNat = 0 := hm s (by simp)
        rw [if_pos hms] at h3
        have hse : (⟨((s.f0.toNat : Nat) : Int), ((s.f1.toNat : Nat) : Int), ((s.f2.toNat : Nat) : Int)⟩ : S87) = s := by
          cases s with
          | mk a b c => simp only [S87.mk.injEq] at *; omega
        rw [hse] at h3
        have h4 := tlAll_of P w h hw n (mask ||| tlM w s) (area + s.f2.toNat * s.f2.toNat) (s :: acc) rest (by omega) h3 (fun t ht => hr t (by simp [ht])) (fun t ht => by have := ho.1 t ht; omega) ho.2 hd.2
          (fun t ht => by rw [Nat.and_or_distrib_right, hm t (by simp [ht]), hd.1 t ht]; rfl)
          (by simp only [tlSum, List.map_cons, List.sum_cons] at ha; unfold tlSum; omega)
        simpa using h4
/-- Squares that do not overlap have no common bit. -/
def tlDisjB (w h : Nat) : Bool := (List.range w).all fun x => (List.range h).all fun y => (List.range (min (w - x) (h - y))).all fun s => (List.range w).all fun x' => (List.range h).all fun y' => (List.range (min (w - x') (h - y'))).all fun s' =>
  (decide (x < x' + (s' + 1)) && decide (x' < x + (s + 1)) && decide (y < y' + (s' + 1)) && decide (y' < y + (s + 1))) || (tlMask w x y (s + 1) &&& tlMask w x' y' (s' + 1)) == 0
def tlSizes : List (Nat × Nat) := ((List.range 6).map fun i => (List.range 6).map fun j => (i + 1, j + 1)).flatten.filter fun p => p.1 * p.2 ≤ 12
set_option maxRecDepth 100000 in
theorem tlDisj_all : (tlSizes.all fun p => tlDisjB p.1 p.2) = true := by decide +kernel
theorem tlSizes_mem (w h : Nat) (hw : 1 ≤ w ∧ w ≤ 6) (hh : 1 ≤ h ∧ h ≤ 6) (ha : w * h ≤ 12) : (w, h) ∈ tlSizes := by
  unfold tlSizes
  rw [List.mem_filter]
  refine ⟨List.mem_flatten.2 ⟨_, List.mem_map.2 ⟨w - 1, List.mem_range.2 (by omega), rfl⟩, List.mem_map.2 ⟨h - 1, List.mem_range.2 (by omega), ?_⟩⟩, by simpa using ha⟩
  rw [show w - 1 + 1 = w by omega, show h - 1 + 1 = h by omega]
theorem tl_disj (w h : Nat) (hw : 1 ≤ w ∧ w ≤ 6) (hh : 1 ≤ h ∧ h ≤ 6) (ha : w * h ≤ 12) (s t : S87) (hs : inR w h s) (ht : inR w h t)
    (hn : ¬ (s.f0 < t.f0 + t.f2 ∧ t.f0 < s.f0 + s.f2 ∧ s.f1 < t.f1 + t.f2 ∧ t.f1 < s.f1 + s.f2)) : tlM w s &&& tlM w t = 0 := by
  have h1 := List.all_eq_true.1 tlDisj_all _ (tlSizes_mem w h hw hh ha)
  unfold tlDisjB at h1
  unfold inR at hs ht
  have h2 := List.all_eq_true.1 h1 s.f0.toNat (List.mem_range.2 (by omega))
  have h3 := List.all_eq_true.1 h2 s.f1.toNat (List.mem_range.2 (by omega))
  have h4 := List.all_eq_true.1 h3 (s.f2.toNat - 1) (List.mem_range.2 (by omega))
  have h5 := List.all_eq_true.1 h4 t.f0.toNat (List.mem_range.2 (by omega))
  have h6 := List.all_eq_true.1 h5 t.f1.toNat (List.mem_range.2 (by omega))
  have h7 := List.all_eq_true.1 h6 (t.f2.toNat - 1) (List.mem_range.2 (by omega))
  rw [show s.f2.toNat - 1 + 1 = s.f2.toNat by omega, show t.f2.toNat - 1 + 1 = t.f2.toNat by omega] at h7
  unfold tlM
  rw [Bool.or_eq_true] at h7
  rcases h7 with h7 | h7
  · exfalso
    simp only [Bool.and_eq_true, decide_eq_true_eq] at h7
    apply hn
    omega
  · exact beq_iff_eq.1 h7
/-! A small cut is one of these. -/
theorem tlPos_less (w h : Nat) (p s : S87) (hp : inR w h p) (hs : inR w h s) (hl : lessB p s = true) : tlPos w p < tlPos w s := by
  unfold inR at hp hs
  unfold lessB at hl
  unfold tlPos
  simp only [Bool.or_eq_true, Bool.and_eq_true, decide_eq_true_eq] at hl
  rcases hl with hl | ⟨h1, h2⟩
  · have h3 : (p.f1.toNat + 1) * w ≤ s.f1.toNat * w := Nat.mul_le_mul_right _ (by omega)
    rw [Nat.add_mul, Nat.one_mul] at h3
    have : p.f0.toNat < w := by omega
    omega
  · rw [h1]; omega
theorem tl_area (A sq n : Nat) (h2 : A ≤ 36 * n) (hsq : sq ≤ 36) (hn : n < 30) : wrap64 ((A : Int) + wrap64 (sq : Int)) = ((A + sq : Nat) : Int) := by
  rw [wrap_id (x := (sq : Int)) (by omega) (by omega), wrap_id (by omega) (by omega)]
  omega
theorem IsCut_tile (w h : Int) (l : List S87) (hc : impl_IsCut.f w h l = some true) (hw : 1 ≤ w ∧ w ≤ 6) (hh : 1 ≤ h ∧ h ≤ 6) (ha : w * h ≤ 12) (P : List S87 → Bool) (hall : tlAll P w.toNat h.toNat (w.toNat * h.toNat) 0 0 [] = true) : P l = true := by
  obtain ⟨W, rfl⟩ : ∃ W : Nat, w = W := ⟨w.toNat, by omega⟩
  obtain ⟨H, rfl⟩ : ∃ H : Nat, h = H := ⟨h.toNat, by omega⟩
  simp only [Int.toNat_natCast] at hall
  have hA : W * H ≤ 12 := by have := ha; rw [← Int.natCast_mul] at this; omega
  unfold impl_IsCut.f at hc
  have hc := Option.some.inj hc
  simp only [Bool.and_eq_true, decide_eq_true_eq] at hc
  obtain ⟨⟨_, hlen⟩, hall2⟩ := hc
  unfold impl_IsCut.all at hall2
  simp only [Bool.and_eq_true, decide_eq_true_eq, List.all_eq_true, List.mem_range] at hall2
  obtain ⟨hok, har⟩ := hall2
  have hw5 : 1 ≤ (W : Int) ∧ (W : Int) ≤ 500 := by omega
  have hh5 : 1 ≤ (H : Int) ∧ (H : Int) ≤ 500 := by omega
  have hin : ∀ i (hi : i < l.length), inR W H l[i] := fun i hi => by have := ok_inR W H l i hw5 hh5 (hok i hi); rwa [rdS l i hi] at this
  have hles : ∀ i (hi : i + 1 < l.length), lessB l[i] l[i + 1] = true := by
    intro i hi
    have := hok (i + 1) hi
    unfold impl_IsCut.ok at this
    rw [Bool.and_eq_true, Bool.and_eq_true] at this
    have h2 := this.1.2
    rw [show (((i + 1 : Nat) : Int)) - 1 = (i : Int) by omega, rdS l i (by omega), rdS l (i + 1) hi, cmp_eq W H _ _ hw5 hh5 (hin i (by omega)) (hin (i + 1) hi), decide_eq_true (by omega : (0 : Int) < ((i + 1 : Nat) : Int))] at h2
    simpa using h2
  have hno : ∀ i j (hj : j < i) (hi : i < l.length), impl_IsCut.over l[i] (l[j]'(by omega)) = false := by
    intro i j hj hi
    have := hok i hi
    unfold impl_IsCut.ok at this
    rw [Bool.and_eq_true] at this
    have h2 := this.2
    rw [Int.toNat_natCast, rdS l i hi] at h2
    rw [Bool.not_eq_true', List.any_eq_false] at h2
    have := h2 (l[j]'(by omega)) (List.mem_take_iff_getElem.2 ⟨j, by omega, rfl⟩)
    simpa using this
  have hareas : ∀ n, n ≤ l.length → impl_IsCut.area l n = ((tlSum (l.take n) : Nat) : Int) ∧ tlSum (l.take n) ≤ 36 * n := by
    intro n
    induction n with
    | zero => intro _; exact ⟨by simp [impl_IsCut.area, tlSum], by simp [tlSum]⟩
    | succ n ih =>
      intro hn
      obtain ⟨h1, h2⟩ := ih (by omega)
      have h3 := hin n (by omega)
      unfold inR at h3
      have hs : tlSum (l.take (n + 1)) = tlSum (l.take n) + l[n].f2.toNat * l[n].f2.toNat := by
        rw [List.take_succ_eq_append_getElem (by omega)]; simp only [tlSum, List.map_append, List.sum_append, List.map_cons, List.map_nil, List.sum_cons, List.sum_nil, Nat.add_zero]
      have hsq : l[n].f2.toNat * l[n].f2.toNat ≤ 36 := Nat.mul_le_mul (by omega : l[n].f2.toNat ≤ 6) (by omega : l[n].f2.toNat ≤ 6)
      have hq : l[n].f2 * l[n].f2 = ((l[n].f2.toNat * l[n].f2.toNat : Nat) : Int) := by
        rw [Int.natCast_mul, show ((l[n].f2.toNat : Nat) : Int) = l[n].f2 by omega]
      generalize l[n].f2.toNat * l[n].f2.toNat = sq at hs hsq hq ⊢
      generalize tlSum (l.take n) = A at h1 h2 hs ⊢
      generalize tlSum (l.take (n + 1)) = B at hs ⊢
      have hn30 : n < 30 := by omega
      refine ⟨?_, by omega⟩
      clear har hok hin hles hno hall ih hlen
      show wrap64 (impl_IsCut.area l n + wrap64 ((rd_T87 l (n : Int)).f2 * (rd_T87 l (n : Int)).f2)) = _
      rw [rdS l n (by omega), h1, hq, tl_area A sq n h2 hsq hn30, hs]
  obtain ⟨h1, h2⟩ := hareas l.length (Nat.le_refl _)
  rw [List.take_length] at h1 h2
  rw [h1, wrap_id (by omega) (by omega)] at har
  have hsum : tlSum l = W * H := by rw [← Int.natCast_mul] at har; omega
  have hchain : ∀ i j (hij : i < j) (hj : j < l.length), tlPos W (l[i]'(by omega)) < tlPos W l[j] := by
    intro i j
    induction j with
    | zero => intro hij; omega
    | succ j ih =>
      intro hij hj
      have h3 := tlPos_less W H _ _ (hin j (by omega)) (hin (j + 1) hj) (hles j hj)
      by_cases e : i = j
      · subst e; exact h3
      · exact Nat.lt_trans (ih (by omega) (by omega)) h3
  have hmem : ∀ s ∈ l, inR W H s := fun s hs => by obtain ⟨i, hi, rfl⟩ := List.getElem_of_mem hs; exact hin i hi
  have := tlAll_of P W H (by omega) (W * H) 0 0 [] l (Nat.le_refl _) hall hmem (fun s _ => by omega) (List.pairwise_iff_getElem.2 fun i j hi hj hij => hchain i j hij hj)
    (List.pairwise_iff_getElem.2 fun i j hi hj hij => by
      rw [Nat.and_comm]
      refine tl_disj W H (by omega) (by omega) hA _ _ (hin j hj) (hin i hi) ?_
      have h3 := hno j i hij hj
      rw [over_eq] at h3
      have h4 := hin i hi
      have h5 := hin j hj
      unfold inR at h4 h5
      rw [wrap_id (by omega) (by omega), wrap_id (by omega) (by omega), wrap_id (by omega) (by omega), wrap_id (by omega) (by omega)] at h3
      intro ⟨a, b, c, d⟩
      rw [decide_eq_true a, decide_eq_true b, decide_eq_true c, decide_eq_true d] at h3
      exact absurd h3 (by decide))
    (fun s _ => by simp) (by simpa using hsum)
  simpa using this
/-! What a clue tells of a small cut: both ways tell the same. -/
theorem within_tot (a b c : Int) : impl_within.f a b c = some (winB a b c) := impl_within.tot2 a b c
theorem isHidden_some (w h : Int) : ∃ r, impl_isHidden.f w h = some r ∧ (r = true → 1 ≤ w ∧ w ≤ 6 ∧ 1 ≤ h ∧ h ≤ 6 ∧ w * h ≤ 12) := by
  unfold impl_isHidden.f impl_isCounted.f
  simp only [within_tot, Option.bind_some]
  cases h1 : winB w 1 6 with
  | false => exact ⟨_, rfl, by simp⟩
  | true =>
    cases h2 : winB h 1 6 with
    | false => exact ⟨_, rfl, by simp⟩
    | true =>
      unfold winB at h1 h2
      simp only [Bool.and_eq_true, decide_eq_true_eq] at h1 h2
      refine ⟨_, rfl, fun h3 => ?_⟩
      have h4 : 0 ≤ w * h := Int.mul_nonneg (by omega) (by omega)
      have h5 : w * h ≤ 6 * 6 := Int.mul_le_mul h1.2 h2.2 (by omega) (by omega)
      simp only [decide_eq_true_eq] at h3
      rw [wrap_id (by omega) (by omega)] at h3
      exact ⟨h1.1, h1.2, h2.1, h2.2, h3⟩
theorem pzSize_hid (w h : Int) : spec_pzSize.f w h = impl_isHidden.f w h := by
  unfold spec_pzSize.f spec_ctSize.f impl_isHidden.f impl_isCounted.f
  simp only [l1In_tot, within_tot]
/-- What a clue of a kind may ask about. -/
def tdArg (w h kind a : Int) : Prop := (kind = 0 ∧ a = 0) ∨ (kind = 1 ∧ 1 ≤ a ∧ a ≤ 6) ∨ (kind = 2 ∧ 0 ≤ a ∧ a < w * h) ∨ (kind = 3 ∧ 0 ≤ a ∧ a ≤ 3) ∨ (kind = 4 ∧ a = 0) ∨ (kind = 5 ∧ a = 0)
def tdOne (k : Nat) (kind a w h : Int) (l : List S87) : Bool :=
  match impl_told.f k kind a w h l, spec_pzValue.f k kind a w h l with
  | some x, some y => x == y
  | _, _ => false
def tdAll (w h : Nat) (l : List S87) : Bool :=
  tdOne 900 0 0 w h l && (List.range 6).all (fun a => tdOne 900 1 ((a + 1 : Nat) : Int) w h l) && (List.range (w * h)).all (fun a => tdOne 900 2 (a : Nat) w h l) && (List.range 4).all (fun a => tdOne 900 3 (a : Nat) w h l) && tdOne 900 4 0 w h l && tdOne 900 5 0 w h l
theorem tdOne_some {k : Nat} {kind a w h : Int} {l : List S87} (ht : tdOne k kind a w h l = true) : ∃ v, impl_told.f k kind a w h l = some v ∧ spec_pzValue.f k kind a w h l = some v := by
  unfold tdOne at ht
  split at ht
  · rename_i x y hx hy
    rw [beq_iff_eq] at ht
    exact ⟨x, hx, by rw [hy, ht]⟩
  · cases ht
set_option maxRecDepth 1000000 in
theorem tdTile : (tlSizes.all fun p => tlAll (tdAll p.1 p.2) p.1 p.2 (p.1 * p.2) 0 0 []) = true := by kernel_rfl
theorem tdTile_at (p : Nat × Nat) (hp : p ∈ tlSizes) : tlAll (tdAll p.1 p.2) p.1 p.2 (p.1 * p.2) 0 0 [] = true := List.all_eq_true.1 tdTile p hp
theorem told_same (w h : Int) (l : List S87) (hc : impl_IsCut.f w h l = some true) (hw : 1 ≤ w ∧ w ≤ 6) (hh : 1 ≤ h ∧ h ≤ 6) (ha : w * h ≤ 12) (kind a : Int) (hk : tdArg w h kind a) :
    ∃ v, ∀ k, 900 ≤ k → impl_told.f k kind a w h l = some v ∧ spec_pzValue.f k kind a w h l = some v := by
  have h1 : tdAll w.toNat h.toNat l = true := by
    refine IsCut_tile w h l hc hw hh ha (tdAll w.toNat h.toNat) ?_
    have hA : w.toNat * h.toNat ≤ 12 := by
      have e1 : ((w.toNat : Nat) : Int) = w := by omega
      have e2 : ((h.toNat : Nat) : Int) = h := by omega
      rw [← e1, ← e2, ← Int.natCast_mul] at ha
      omega
    exact tdTile_at (w.toNat, h.toNat) (tlSizes_mem w.toNat h.toNat (by omega) (by omega) hA)
  have e1 : ((w.toNat : Nat) : Int) = w := by omega
  have e2 : ((h.toNat : Nat) : Int) = h := by omega
  have h2 : tdOne 900 kind a w h l = true := by
    unfold tdAll at h1
    simp only [Bool.and_eq_true, e1, e2] at h1
    obtain ⟨⟨⟨⟨⟨k0, k1⟩, k2⟩, k3⟩, k4⟩, k5⟩ := h1
    rcases hk with ⟨rfl, rfl⟩ | ⟨rfl, h3, h4⟩ | ⟨rfl, h3, h4⟩ | ⟨rfl, h3, h4⟩ | ⟨rfl, rfl⟩ | ⟨rfl, rfl⟩
    · exact k0
    · have := List.all_eq_true.1 k1 (a.toNat - 1) (List.mem_range.2 (by omega))
      rwa [show ((a.toNat - 1 + 1 : Nat) : Int) = a by omega] at this
    · have := List.all_eq_true.1 k2 a.toNat (List.mem_range.2 (by
        have e3 : ((w.toNat * h.toNat : Nat) : Int) = w * h := by rw [Int.natCast_mul, e1, e2]
        omega))
      rwa [show ((a.toNat : Nat) : Int) = a by omega] at this
    · have := List.all_eq_true.1 k3 a.toNat (List.mem_range.2 (by omega))
      rwa [show ((a.toNat : Nat) : Int) = a by omega] at this
    · exact k4
    · exact k5
  obtain ⟨v, h3, h4⟩ := tdOne_some h2
  exact ⟨v, fun k hk => ⟨at_rounds (g := fun k => impl_told.f k kind a w h l) (fun k => impl_told.mono _ _ _ _ _ k) hk h3, at_rounds (g := fun k => spec_pzValue.f k kind a w h l) (fun k => spec_pzValue.mono _ _ _ _ _ k) hk h4⟩⟩
/-! Puzzles that are made: both ways make the same. -/
theorem mkNext_eq (s : Int) (h0 : 0 ≤ s) (h1 : s ≤ 10006) : spec_pzNext.f s = some (mkNext s) := by
  unfold spec_pzNext.f mkNext
  rw [wrap_id (x := 167 * s) (by omega) (by omega), wrap_id (by omega) (by omega), Int.tmod_eq_emod_of_nonneg (by omega), show 167 * s = s * 167 by omega]
theorem pzAlone_eq (x : Int) (h0 : 0 ≤ x) : spec_pzAlone.f x = some (!decide (1 ≤ x ∧ x ≤ 3)) := by
  unfold spec_pzAlone.f
  by_cases h : x = 0
  · subst h; rfl
  · rw [if_neg h]
    congr 1
    rw [Bool.eq_iff_iff]
    simp
    omega
theorem mk_l0 (w h : Int) (l : List S87) (hc : impl_IsCut.f w h l = some true) (hw : 1 ≤ w ∧ w ≤ 6) (hh : 1 ≤ h ∧ h ≤ 6) (ha : w * h ≤ 12) : ∀ (n : Nat) (k : Nat) (s : Int) (acc : List S42), 900 ≤ k → acc.length + n ≤ 6 → 0 ≤ s → s ≤ 10006 →
    ∃ R, R.length = acc.length + n ∧ (∀ kk, 900 ≤ kk → mkLoop kk w h l n s acc = some R) ∧ spec_MakePuzzle.l0 (k + n + 1) (n : Int) s w h l w h acc = some (w, h, R, true)
  | 0, k, s, acc, hk, hn, h0, h1 => by
    refine ⟨acc, rfl, fun kk _ => rfl, ?_⟩
    simp only [spec_MakePuzzle.l0]
    rw [if_neg (by omega)]
  | n + 1, k, s, acc, hk, hn, h0, h1 => by
    have hwh : 1 ≤ w * h := by have := Int.mul_le_mul hw.1 hh.1 (by omega) (by omega); omega
    obtain ⟨z0, z1⟩ := mkNext_in s
    obtain ⟨y0, y1⟩ := mkNext_in (mkNext s)
    have e6 : Int.tmod (mkNext s) 6 = mkNext s % 6 := Int.tmod_eq_emod_of_nonneg z0
    have hsub : wrap64 (((n + 1 : Nat) : Int) - 1) = (n : Int) := by rw [wrap_id (by omega) (by omega)]; omega
    have hkk : k + (n + 1) + 1 = (k + n + 1) + 1 := by omega
    rw [hkk, spec_MakePuzzle.l0]
    rw [if_pos (by omega), mkNext_eq s h0 h1]
    simp only [Option.bind_some]
    rw [e6, pzAlone_eq _ (by omega)]
    simp only [Option.bind_some]
    generalize hx : mkNext s % 6 = x
    have hx0 : 0 ≤ x ∧ x ≤ 5 := by omega
    by_cases h3 : 1 ≤ x ∧ x ≤ 3
    · rw [decide_eq_true h3]
      simp only [Bool.not_true, Bool.false_eq_true, if_false]
      rw [mkNext_eq _ z0 z1]
      simp only [Option.bind_some]
      have harg : tdArg w h x (mkArg w h x (mkNext (mkNext s))) := by
        unfold tdArg mkArg
        have : x = 1 ∨ x = 2 ∨ x = 3 := by omega
        rcases this with rfl | rfl | rfl
        · refine .inr (.inl ⟨rfl, ?_, ?_⟩) <;> simp <;> omega
        · refine .inr (.inr (.inl ⟨rfl, ?_, ?_⟩))
          · simp; exact Int.emod_nonneg _ (by omega)
          · simp; exact Int.emod_lt_of_pos _ (by omega)
        · refine .inr (.inr (.inr (.inl ⟨rfl, ?_, ?_⟩))) <;> simp <;> omega
      obtain ⟨v, hv⟩ := told_same w h l hc hw hh ha x _ harg
      obtain ⟨R, hR1, hR2, hR3⟩ := mk_l0 w h l hc hw hh ha n k (mkNext (mkNext s)) (acc ++ [⟨x, mkArg w h x (mkNext (mkNext s)), v⟩]) hk (by simp; omega) y0 y1
      refine ⟨R, by rw [hR1]; simp; omega, fun kk hkk => ?_, ?_⟩
      · show (mkRound kk w h l s).bind _ = _
        unfold mkRound
        rw [hx, if_pos h3, (hv kk hkk).1]
        exact hR2 kk hkk
      · have hof : spec_pzOf.f (k + n + 1) x (mkArg w h x (mkNext (mkNext s))) w h l = some (x, mkArg w h x (mkNext (mkNext s)), v) := by
          unfold spec_pzOf.f
          rw [pzAlone_eq _ hx0.1, decide_eq_true h3]
          simp only [Option.bind_some, Bool.not_true, Bool.false_eq_true, if_false]
          rw [(hv (k + n + 1) (by omega)).2]
          rfl
        have hacc : acc.length < 5864062014805 := by omega
        have : x = 1 ∨ x = 2 ∨ x = 3 := by omega
        rcases this with rfl | rfl | rfl
        · rw [if_pos rfl, Int.tmod_eq_emod_of_nonneg y0, wrap_id (by omega) (by omega)]
          have e : mkArg w h 1 (mkNext (mkNext s)) = mkNext (mkNext s) % 3 + 1 := rfl
          rw [e] at hof hR3
          rw [hof]
          simp only [Option.bind_some]
          rw [if_pos hacc, hsub]
          exact hR3
        · rw [if_neg (by omega), if_pos rfl, wrap_id (x := w * h) (by omega) (by omega), if_neg (by omega), Int.tmod_eq_emod_of_nonneg y0]
          have e : mkArg w h 2 (mkNext (mkNext s)) = mkNext (mkNext s) % (w * h) := rfl
          rw [e] at hof hR3
          rw [hof]
          simp only [Option.bind_some]
          rw [if_pos hacc, hsub]
          exact hR3
        · rw [if_neg (by omega), if_neg (by omega), Int.tmod_eq_emod_of_nonneg y0]
          have e : mkArg w h 3 (mkNext (mkNext s)) = mkNext (mkNext s) % 4 := rfl
          rw [e] at hof hR3
          rw [hof]
          simp only [Option.bind_some]
          rw [if_pos hacc, hsub]
          exact hR3
    · rw [decide_eq_false h3]
      simp only [Bool.not_false, if_true]
      have harg : tdArg w h x 0 := by
        unfold tdArg
        omega
      obtain ⟨v, hv⟩ := told_same w h l hc hw hh ha x _ harg
      obtain ⟨R, hR1, hR2, hR3⟩ := mk_l0 w h l hc hw hh ha n k (mkNext s) (acc ++ [⟨x, v, 0⟩]) hk (by simp; omega) z0 z1
      refine ⟨R, by rw [hR1]; simp; omega, fun kk hkk => ?_, ?_⟩
      · show (mkRound kk w h l s).bind _ = _
        unfold mkRound
        rw [hx, if_neg h3, (hv kk hkk).1]
        exact hR2 kk hkk
      · have hof : spec_pzOf.f (k + n + 1) x 0 w h l = some (x, v, 0) := by
          unfold spec_pzOf.f
          rw [pzAlone_eq _ hx0.1, decide_eq_false h3]
          simp only [Option.bind_some, Bool.not_false, if_true]
          rw [(hv (k + n + 1) (by omega)).2]
          rfl
        rw [hof]
        simp only [Option.bind_some]
        rw [if_pos (by omega), hsub]
        exact hR3
theorem MakePuzzle_same (w h : Int) (l : List S87) (a1 a2 : Int) (k : Nat) (hk : 3000 ≤ k) (hl : l.length ≤ 9223372036854775807) : ∃ r, r.2.2.1.length ≤ 6 ∧ spec_MakePuzzle.f k w h l a1 a2 = some r ∧ impl_MakePuzzle.f k w h l a1 a2 = some r := by
  unfold spec_MakePuzzle.f impl_MakePuzzle.f spec_pzHidden.f impl_isHiddenCut.f
  rw [cuGood_eq w h l k (by omega) hl, pzSize_hid]
  obtain ⟨b, hb⟩ : ∃ b, impl_IsCut.f w h l = some b := ⟨_, rfl⟩
  rw [hb]
  obtain ⟨k, rfl⟩ : ∃ m, k = m + 1 := ⟨k - 1, by omega⟩
  simp only [Option.bind_some]
  cases b with
  | false => exact ⟨(0, 0, [], false), by simp, by simp [spec_MakePuzzle.j0], rfl⟩
  | true =>
    obtain ⟨t, ht, ht2⟩ := isHidden_some w h
    rw [ht]
    simp only [Option.bind_some, if_true]
    cases t with
    | false => exact ⟨(0, 0, [], false), by simp, by simp [spec_MakePuzzle.j0], rfl⟩
    | true =>
      obtain ⟨w1, w2, h1, h2, ha⟩ := ht2 rfl
      simp only [if_true, l1In_tot, Option.bind_some]
      by_cases c1 : 0 ≤ a1 ∧ a1 ≤ 6
      · by_cases c2 : 0 ≤ a2 ∧ a2 ≤ 9999
        · have e1 : winB a1 0 6 = true := by unfold winB; simp; omega
          have e2 : winB a2 0 9999 = true := by unfold winB; simp; omega
          simp only [e1, e2, if_true, Bool.not_true, spec_MakePuzzle.j0, Bool.false_eq_true, if_false]
          rw [if_pos ⟨c1, c2⟩, if_pos ⟨⟨w1, w2⟩, h1, h2⟩]
          obtain ⟨R, hR1, hR2, hR3⟩ := mk_l0 w h l hb ⟨w1, w2⟩ ⟨h1, h2⟩ ha a1.toNat (k - a1.toNat - 1) a2 [] (by omega) (by simp; omega) c2.1 (by omega)
          rw [show k - a1.toNat - 1 + a1.toNat + 1 = k by omega, show ((a1.toNat : Nat) : Int) = a1 by omega] at hR3
          refine ⟨(w, h, R, true), by show R.length ≤ 6; rw [hR1]; simp; omega, hR3, ?_⟩
          rw [hR2 (k + 1) (by omega)]
          rfl
        · have e2 : winB a2 0 9999 = false := by unfold winB; simp; omega
          have hn : ¬ ((0 ≤ a1 ∧ a1 ≤ 6) ∧ 0 ≤ a2 ∧ a2 ≤ 9999) := fun h => c2 h.2
          refine ⟨(0, 0, [], false), by simp, ?_, by rw [if_neg hn]⟩
          rw [e2]
          cases winB a1 0 6 <;> simp [spec_MakePuzzle.j0]
      · have e1 : winB a1 0 6 = false := by unfold winB; simp; omega
        have hn : ¬ ((0 ≤ a1 ∧ a1 ≤ 6) ∧ 0 ≤ a2 ∧ a2 ≤ 9999) := fun h => c1 h.1
        refine ⟨(0, 0, [], false), by simp, ?_, by rw [if_neg hn]⟩
        rw [e1]
        simp [spec_MakePuzzle.j0]
theorem FnExactMakePuzzle.pure (w h : Int) (l : List S89) (a1 a2 : Int) (_ : (Lit.int .i64 w).wf = true) (_ : (Lit.int .i64 h).wf = true) (hm : l.length ≤ 9223372036854775807) (_ : ∀ y ∈ l, (Lit.int .i64 y.f0).wf = true ∧ (Lit.int .i64 y.f1).wf = true ∧ (Lit.int .i64 y.f2).wf = true)
    (_ : (Lit.int .i64 a1).wf = true) (_ : (Lit.int .i64 a2).wf = true) : ∃ k, laws_FnExactMakePuzzle.f k w h l a1 a2 = some true := by
  by_cases hl : l.length ≤ 1048576
  · refine ⟨l.length + 3100, ?_⟩
    unfold laws_FnExactMakePuzzle.f
    rw [szCut_eq _ _ _ hm, if_pos hl]
    simp only [Option.bind_some]
    rw [if_neg (by omega), toCut_eq _ _ _ _ (by omega) (by omega)]
    simp only [Option.bind_some]
    obtain ⟨⟨r1, r2, r3, r4⟩, hr, h1, h2⟩ := MakePuzzle_same w h (l.map convS) a1 a2 3000 (by omega) (by rw [List.length_map]; omega)
    simp only at hr
    have h1' := at_rounds (g := fun k => spec_MakePuzzle.f k w h (l.map convS) a1 a2) (fun k => spec_MakePuzzle.mono _ _ _ _ _ k) (show 3000 ≤ l.length + 3100 by omega) h1
    have h2' := fun (k : Nat) (hk : 3000 ≤ k) => at_rounds (g := fun k => impl_MakePuzzle.f k w h (l.map convS) a1 a2) (fun k => impl_MakePuzzle.mono _ _ _ _ _ k) hk h2
    rw [h1', h2' _ (by omega)]
    simp only [Option.bind_some]
    rw [eqPuzzle_refl _ _ _ _ (by omega) (by omega)]
    simp only [Option.bind_some, if_true, bne_self_eq_false]
    simp only [laws_FnExactMakePuzzle.j0, Bool.false_eq_true, if_false]
    rw [toCut_eq _ _ _ _ (by omega) (by omega)]
    simp only [Option.bind_some]
    rw [eqCut_refl _ _ _ _ (by simp <;> omega) (by simp <;> omega)]
    simp only [Option.bind_some, if_true]
    rw [markCut_eq _ _ _ _ (by simp <;> omega) (by simp <;> omega)]
    simp only [Option.bind_some]
    rw [if_neg (by omega), eqPuzzle_refl _ _ _ _ (by omega) (by omega)]
    simp only [Option.bind_some, if_true, bne_self_eq_false]
    simp only [laws_FnExactMakePuzzle.j1, Bool.false_eq_true, if_false]
    rw [markPuzzle_eq _ _ _ _ (by omega) (by omega)]
    simp only [Option.bind_some]
    rw [heldPuzzle_eq _ _ _ _ (by omega) (by omega)]
    simp only [Option.bind_some, if_true]
    rw [if_neg (by omega), toCut_eq _ _ _ _ (by omega) (by omega)]
    simp only [Option.bind_some]
    rw [h2' _ (by omega)]
    simp only [Option.bind_some]
    rw [eqPuzzle_refl _ _ _ _ (by omega) (by omega)]
    simp only [Option.bind_some, if_true, bne_self_eq_false]
    simp only [laws_FnExactMakePuzzle.j2, Bool.false_eq_true, if_false]
    rw [heldPuzzle_eq _ _ _ _ (by omega) (by omega)]
    simp only [Option.bind_some, if_true]
    rw [if_neg (by omega)]
  · refine ⟨0, ?_⟩
    unfold laws_FnExactMakePuzzle.f
    rw [szCut_eq _ _ _ hm, if_neg hl]
    simp
end Go.Proofs.Ytipiaiolhhnnhaa.PFnExactMakePuzzle
