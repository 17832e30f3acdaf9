/- The plain law behind FnExactFillSides: what the program computes and what the reference computes answer alike, in numbers and lists alone. -/
import Derived.Test.YtipiaiolhhnnhaaPFnExactFillSidesx0
import Derived.Test.YtipiaiolhhnnhaaPFnExactFillSidesx1
import Derived.Test.YtipiaiolhhnnhaaPFnExactFillSidesx2
import Derived.Test.YtipiaiolhhnnhaaPFnExactFillSidesx3
import Derived.Test.YtipiaiolhhnnhaaPFnExactFillSidesx4
import Derived.Test.YtipiaiolhhnnhaaPFnExactFillSidesx5
import Derived.Test.YtipiaiolhhnnhaaPFnExactFillSidesx7
import Derived.Test.YtipiaiolhhnnhaaPFnExactFillSidesx8
import Derived.Test.YtipiaiolhhnnhaaPFnExactFillSidesx9
import Derived.Test.YtipiaiolhhnnhaaPFnExactFillSidesx12
import Derived.Test.YtipiaiolhhnnhaaPFnExactFillSidesx13
import Derived.Test.YtipiaiolhhnnhaaPFnExactFillSidesx14
import Derived.Test.YtipiaiolhhnnhaaPFnExactFillSidesx15
import Derived.Test.YtipiaiolhhnnhaaH
namespace Go.Proofs.Ytipiaiolhhnnhaa.PFnExactFillSides
open Go.RowKit Go.Proofs.YtipiaiolhhnnhaaW.PrintWords Go.Proofs.YtipiaiolhhnnhaaW.PrintLast Go.Proofs.YtipiaiolhhnnhaaW.PrintMore Go.Proofs.YtipiaiolhhnnhaaH
set_option linter.unusedVariables false
set_option linter.unusedSimpArgs false
/-! cuts: the program's test is the reference's -/
theorem wrap_id {x : Int} (h0 : -9223372036854775808 ≤ x) (h1 : x ≤ 9223372036854775807) : wrap64 x = x := by unfold wrap64; omega
theorem l1In_tot (a b c : Int) : spec_l1In.f a b c = some (winB a b c) := by
  unfold spec_l1In.f winB; by_cases h : b ≤ a <;> simp [h]
theorem rdS (l : List S87) (i : Nat) (h : i < l.length) : rd_T87 l (i : Int) = l[i] := by simp [rd_T87, List.getD_eq_getElem?_getD, h]
theorem over_eq (s q : S87) : impl_IsCut.over s q = (decide (s.f0 < wrap64 (q.f0 + q.f2)) && decide (q.f0 < wrap64 (s.f0 + s.f2)) && decide (s.f1 < wrap64 (q.f1 + q.f2)) && decide (q.f1 < wrap64 (s.f1 + s.f2))) := by
  unfold impl_IsCut.over impl_overlap.f
  by_cases h1 : s.f0 < wrap64 (q.f0 + q.f2)
  · by_cases h2 : q.f0 < wrap64 (s.f0 + s.f2)
    · by_cases h3 : s.f1 < wrap64 (q.f1 + q.f2) <;> simp [h1, h2, h3]
    · simp [h1, h2]
  · simp [h1]
def lessB (p s : S87) : Bool := decide (p.f1 < s.f1) || (decide (p.f1 = s.f1) && decide (p.f0 < s.f0))
theorem cuLess_eq (p s : S87) : spec_cuLess.f p.f0 p.f1 p.f2 s.f0 s.f1 s.f2 = some (lessB p s) := by
  unfold spec_cuLess.f lessB
  by_cases h1 : p.f1 < s.f1
  · simp [h1]
  · by_cases h2 : p.f1 = s.f1
    · have : ¬ s.f1 < s.f1 := by omega
      simp [h2]
    · simp [h1, h2]
def badB (l : List S87) (i : Nat) (s : S87) (j : Nat) : Bool := impl_IsCut.over s (rd_T87 l (j : Int)) || (decide (j + 1 = i) && !lessB (rd_T87 l (j : Int)) s)
theorem take_rd (l : List S87) (i j : Nat) (h : j < i) (hi : i ≤ l.length) : rd_T87 (l.take i) (j : Int) = rd_T87 l (j : Int) := by
  rw [rdS _ _ (by simp; omega), rdS _ _ (by omega), List.getElem_take]
theorem cuGood_l1 (l : List S87) (w h : Int) (i : Nat) (hi : i < l.length) (hl : l.length ≤ 30) (s : S87) (ar : Int) (d : Nat) : ∀ (k j : Nat), j + d = i → 2 * d + 1 ≤ k →
    spec_cuGood.l1 k ar (i : Int) l (l.length : Int) (i : Int) (l.take i) ((l.take i).length : Int) (j : Int) w h l s.f0 s.f1 s.f2 = if (List.range' j d).any (badB l i s) = true then some false else spec_cuGood.l0 (k - (2 * d + 1)) ar l (l.length : Int) (wrap64 ((i : Int) + 1)) w h l := by
  have htl : (l.take i).length = i := by rw [List.length_take]; omega
  induction d with
  | zero =>
    intro k j hj hk
    obtain ⟨k, rfl⟩ : ∃ m, k = m + 1 := ⟨k - 1, by omega⟩
    simp only [spec_cuGood.l1]
    rw [if_neg (by omega)]
    simp
  | succ d ih =>
    intro k j hj hk
    obtain ⟨k, rfl⟩ : ∃ m, k = m + 1 + 1 := ⟨k - 2, by omega⟩
    have hji : j < i := by omega
    simp only [spec_cuGood.l1]
    rw [if_pos (by omega), if_pos (by omega), if_pos (by omega)]
    rw [take_rd l i j hji (by omega), List.range'_succ, List.any_cons]
    have hb : badB l i s j = (impl_IsCut.over s (rd_T87 l (j : Int)) || (decide (j + 1 = i) && !lessB (rd_T87 l (j : Int)) s)) := rfl
    have ih' := ih k (j + 1) (by omega) (by omega)
    rw [show (((j + 1 : Nat) : Int)) = (j : Int) + 1 by omega] at ih'
    have hk2 : k + 1 + 1 - (2 * (d + 1) + 1) = k - (2 * d + 1) := by omega
    rw [hk2]
    generalize rd_T87 l (j : Int) = q at hb ⊢
    have hj4 : ∀ b : Bool, b = impl_IsCut.over s q → spec_cuGood.j4 (k + 1) ar (i : Int) (j : Int) l (l.length : Int) (i : Int) (l.take i) ((l.take i).length : Int) (j : Int) b w h l s.f0 s.f1 s.f2 q.f0 q.f1 q.f2 = if (badB l i s j || (List.range' (j + 1) d).any (badB l i s)) = true then some false else spec_cuGood.l0 (k - (2 * d + 1)) ar l (l.length : Int) (wrap64 ((i : Int) + 1)) w h l := by
      intro b hbo
      simp only [spec_cuGood.j4]
      rw [hb, ← hbo]
      cases b with
      | true => simp
      | false =>
        simp only [Bool.false_or, Bool.false_eq_true, if_false]
        rw [wrap_id (x := (i : Int) - 1) (by omega) (by omega), wrap_id (x := (j : Int) + 1) (by omega) (by omega)]
        by_cases hl1 : j + 1 = i
        · rw [if_pos (by omega), cuLess_eq]
          simp only [Option.bind_some]
          rw [decide_eq_true hl1]
          cases hls : lessB q s with
          | true => simp only [if_true, Bool.not_true, Bool.and_false, Bool.false_or]; exact ih'
          | false => simp
        · rw [if_neg (by omega), decide_eq_false hl1]
          simp only [Bool.false_and, Bool.false_or]
          exact ih'
    have ho := over_eq s q
    by_cases c1 : s.f0 < wrap64 (q.f0 + q.f2)
    · rw [if_pos c1]
      by_cases c2 : q.f0 < wrap64 (s.f0 + s.f2)
      · rw [if_pos c2]
        by_cases c3 : s.f1 < wrap64 (q.f1 + q.f2)
        · rw [if_pos c3]
          exact hj4 _ (by rw [ho]; simp [c1, c2, c3])
        · rw [if_neg c3]
          exact hj4 _ (by rw [ho]; simp [c1, c2, c3])
      · rw [if_neg c2]
        exact hj4 _ (by rw [ho]; simp [c1, c2])
    · rw [if_neg c1]
      exact hj4 _ (by rw [ho]; simp [c1])
theorem mn_le (a b : Int) : mn a b ≤ a ∧ mn a b ≤ b ∧ (mn a b = a ∨ mn a b = b) := by unfold mn; split <;> omega
/-- Both ranges let in the same squares. -/
theorem rng_eq (w h : Int) (s : S87) (hw : 1 ≤ w ∧ w ≤ 500) (hh : 1 ≤ h ∧ h ≤ 500) :
    (winB s.f2 1 500 && winB s.f0 0 (wrap64 (w - s.f2)) && winB s.f1 0 (wrap64 (h - s.f2))) = (winB s.f2 1 (mn w h) && winB s.f0 0 (wrap64 (w - s.f2)) && winB s.f1 0 (wrap64 (h - s.f2))) := by
  obtain ⟨m1, m2, m3⟩ := mn_le w h
  unfold winB
  by_cases h1 : 1 ≤ s.f2 ∧ s.f2 ≤ 500
  · rw [wrap_id (x := w - s.f2) (by omega) (by omega), wrap_id (x := h - s.f2) (by omega) (by omega)]
    rw [Bool.eq_iff_iff]
    simp only [Bool.and_eq_true, decide_eq_true_eq]
    omega
  · have : (decide (1 ≤ s.f2) && decide (s.f2 ≤ 500)) = false := by
      rw [Bool.and_eq_false_iff]; simp only [decide_eq_false_iff_not]; omega
    rw [this]
    have h2 : (decide (1 ≤ s.f2) && decide (s.f2 ≤ mn w h)) = false := by
      rw [Bool.and_eq_false_iff]; simp only [decide_eq_false_iff_not]; omega
    rw [h2]
/-- In range. -/
def inR (w h : Int) (s : S87) : Prop := 1 ≤ s.f2 ∧ s.f2 ≤ w ∧ s.f2 ≤ h ∧ 0 ≤ s.f0 ∧ s.f0 + s.f2 ≤ w ∧ 0 ≤ s.f1 ∧ s.f1 + s.f2 ≤ h
theorem inR_of (w h : Int) (s : S87) (hw : 1 ≤ w ∧ w ≤ 500) (hh : 1 ≤ h ∧ h ≤ 500) (hs : (winB s.f2 1 (mn w h) && winB s.f0 0 (wrap64 (w - s.f2)) && winB s.f1 0 (wrap64 (h - s.f2))) = true) : inR w h s := by
  obtain ⟨m1, m2, m3⟩ := mn_le w h
  unfold winB at hs
  simp only [Bool.and_eq_true, decide_eq_true_eq] at hs
  obtain ⟨⟨⟨h1, h2⟩, h3, h4⟩, h5, h6⟩ := hs
  rw [wrap_id (x := w - s.f2) (by omega) (by omega)] at h4
  rw [wrap_id (x := h - s.f2) (by omega) (by omega)] at h6
  exact ⟨h1, by omega, by omega, h3, by omega, h5, by omega⟩
theorem cmp_eq (w h : Int) (p s : S87) (hw : 1 ≤ w ∧ w ≤ 500) (hh : 1 ≤ h ∧ h ≤ 500) (hp : inR w h p) (hs : inR w h s) : decide (0 ≤ impl_IsCut.cmp p s) = !lessB p s := by
  unfold inR at hp hs
  unfold impl_IsCut.cmp impl_comparePlaces.f lessB
  by_cases e : p.f1 = s.f1
  · have e2 : ¬ p.f1 < s.f1 := by omega
    simp only [e, if_true, Option.getD_some, decide_true, Bool.true_and]
    rw [wrap_id (by omega) (by omega)]
    rw [Bool.eq_iff_iff]
    simp
  · simp only [e, if_false, Option.getD_some, decide_false, Bool.false_and, Bool.or_false]
    rw [wrap_id (by omega) (by omega)]
    rw [Bool.eq_iff_iff]
    simp
theorem ok_inR (w h : Int) (l : List S87) (i : Nat) (hw : 1 ≤ w ∧ w ≤ 500) (hh : 1 ≤ h ∧ h ≤ 500) (hk : impl_IsCut.ok w h l (i : Int) = true) : inR w h (rd_T87 l (i : Int)) := by
  unfold impl_IsCut.ok at hk
  rw [Bool.and_eq_true, Bool.and_eq_true] at hk
  exact inR_of w h _ hw hh hk.1.1
theorem any_bad (l : List S87) (i : Nat) (hi : i < l.length) (s : S87) :
    (List.range' 0 i).any (badB l i s) = ((decide (0 < i) && !lessB (rd_T87 l ((i : Int) - 1)) s) || (l.take i).any (fun t => impl_IsCut.over s t)) := by
  rw [Bool.eq_iff_iff]
  simp only [List.any_eq_true, List.mem_range'_1, Bool.or_eq_true, Bool.and_eq_true, decide_eq_true_eq]
  constructor
  · rintro ⟨j, hj, hb⟩
    unfold badB at hb
    rw [Bool.or_eq_true, Bool.and_eq_true, decide_eq_true_eq] at hb
    rcases hb with hb | ⟨hb, hc⟩
    · right
      refine ⟨rd_T87 l (j : Int), ?_, hb⟩
      rw [rdS l j (by omega)]
      rw [List.mem_take_iff_getElem]
      exact ⟨j, by omega, rfl⟩
    · left
      refine ⟨by omega, ?_⟩
      rw [show (i : Int) - 1 = (j : Int) by omega]
      exact hc
  · rintro (⟨h0, hc⟩ | ⟨t, ht, hb⟩)
    · refine ⟨i - 1, by omega, ?_⟩
      unfold badB
      rw [show (((i - 1 : Nat) : Int)) = (i : Int) - 1 by omega, hc, decide_eq_true (by omega : i - 1 + 1 = i)]
      simp
    · rw [List.mem_take_iff_getElem] at ht
      obtain ⟨j, hj, rfl⟩ := ht
      refine ⟨j, by omega, ?_⟩
      unfold badB
      rw [rdS l j (by omega), hb]
      simp
theorem cuGood_l0 (l : List S87) (w h : Int) (hw : 1 ≤ w ∧ w ≤ 500) (hh : 1 ≤ h ∧ h ≤ 500) (hl : l.length ≤ 30) (d : Nat) : ∀ (k i : Nat), i + d = l.length → 63 * d < k → (∀ j : Nat, j < i → impl_IsCut.ok w h l (j : Int) = true) →
    spec_cuGood.l0 k (impl_IsCut.area l i) l (l.length : Int) (i : Int) w h l = some ((List.range' i d).all (fun j => impl_IsCut.ok w h l (j : Int)) && decide (impl_IsCut.area l l.length = wrap64 (w * h))) := by
  induction d with
  | zero =>
    intro k i hi hk hok
    obtain ⟨k, rfl⟩ : ∃ m, k = m + 1 := ⟨k - 1, by omega⟩
    have : i = l.length := by omega
    subst this
    simp only [spec_cuGood.l0]
    rw [if_neg (by omega)]
    simp only [List.range'_zero, List.all_nil, Bool.true_and]
    congr 1
  | succ d ih =>
    intro k i hi hk hok
    obtain ⟨k, rfl⟩ : ∃ m, k = m + 1 + 1 := ⟨k - 2, by omega⟩
    have hil : i < l.length := by omega
    have hrng := rng_eq w h (rd_T87 l (i : Int)) hw hh
    have hokd : impl_IsCut.ok w h l (i : Int) = (winB (rd_T87 l (i : Int)).f2 1 (mn w h) && winB (rd_T87 l (i : Int)).f0 0 (wrap64 (w - (rd_T87 l (i : Int)).f2)) && winB (rd_T87 l (i : Int)).f1 0 (wrap64 (h - (rd_T87 l (i : Int)).f2)) &&
      !(decide (0 < (i : Int)) && decide (0 ≤ impl_IsCut.cmp (rd_T87 l ((i : Int) - 1)) (rd_T87 l (i : Int)))) && !(l.take i).any (fun t => impl_IsCut.over (rd_T87 l (i : Int)) t)) := rfl
    have har : impl_IsCut.area l (i + 1) = wrap64 (impl_IsCut.area l i + wrap64 ((rd_T87 l (i : Int)).f2 * (rd_T87 l (i : Int)).f2)) := rfl
    rw [List.range'_succ, List.all_cons]
    simp only [spec_cuGood.l0]
    rw [if_pos (by omega), if_pos (by omega), if_pos (by omega)]
    simp only [l1In_tot, Option.bind_some]
    have hprev : 0 < i → inR w h (rd_T87 l ((i : Int) - 1)) := by
      intro h0
      have := ok_inR w h l (i - 1) hw hh (hok (i - 1) (by omega))
      rwa [show (((i - 1 : Nat) : Int)) = (i : Int) - 1 by omega] at this
    obtain ⟨s, hs⟩ : ∃ s, s = rd_T87 l (i : Int) := ⟨_, rfl⟩
    rw [← hs] at hrng hokd har ⊢
    have hno : ∀ b : Bool, b = true → (winB s.f2 1 500 && winB s.f0 0 (wrap64 (w - s.f2)) && winB s.f1 0 (wrap64 (h - s.f2))) = false → spec_cuGood.j2 (k + 1) (impl_IsCut.area l i) (i : Int) l (l.length : Int) (i : Int) b w h l s.f0 s.f1 s.f2 = some (impl_IsCut.ok w h l (i : Int) && (List.range' (i + 1) d).all (fun j => impl_IsCut.ok w h l (j : Int)) && decide (impl_IsCut.area l l.length = wrap64 (w * h))) := by
      intro b hb hf
      rw [hokd, ← hrng, hf]
      simp [spec_cuGood.j2, hb]
    cases b1 : winB s.f2 1 500 with
    | false => simp only [Bool.false_eq_true, if_false]; exact hno _ rfl (by simp [b1])
    | true =>
      simp only [if_true]
      cases b2 : winB s.f0 0 (wrap64 (w - s.f2)) with
      | false => simp only [Bool.false_eq_true, if_false]; exact hno _ rfl (by simp [b2])
      | true =>
        simp only [if_true]
        cases b3 : winB s.f1 0 (wrap64 (h - s.f2)) with
        | false => exact hno _ rfl (by simp [b3])
        | true =>
          have hin := inR_of w h s hw hh (by rw [← hrng, b1, b2, b3]; rfl)
          have hrt := show (winB s.f2 1 (mn w h) && winB s.f0 0 (wrap64 (w - s.f2)) && winB s.f1 0 (wrap64 (h - s.f2))) = true by rw [← hrng, b1, b2, b3]; rfl
          simp only [spec_cuGood.j2, Bool.not_true, Bool.false_eq_true, if_false]
          rw [if_pos (by omega), if_pos (by omega)]
          simp only [Option.bind_some, Int.toNat_natCast]
          rw [← har, show (0 : Int) = ((0 : Nat) : Int) from rfl, cuGood_l1 l w h i hil hl s _ i k 0 (by omega) (by omega), any_bad l i hil s]
          have hokr : impl_IsCut.ok w h l (i : Int) = !((decide (0 < i) && !lessB (rd_T87 l ((i : Int) - 1)) s) || (l.take i).any (fun t => impl_IsCut.over s t)) := by
            rw [hokd, hrt]
            have : (decide (0 < (i : Int)) && decide (0 ≤ impl_IsCut.cmp (rd_T87 l ((i : Int) - 1)) s)) = (decide (0 < i) && !lessB (rd_T87 l ((i : Int) - 1)) s) := by
              by_cases h0 : 0 < i
              · rw [cmp_eq w h _ s hw hh (hprev h0) hin, decide_eq_true h0, decide_eq_true (by omega : (0 : Int) < (i : Int))]
              · rw [decide_eq_false h0, decide_eq_false (by omega : ¬ (0 : Int) < (i : Int))]; rfl
            rw [this]
            simp
          rw [hokr]
          cases hv : ((decide (0 < i) && !lessB (rd_T87 l ((i : Int) - 1)) s) || (l.take i).any (fun t => impl_IsCut.over s t)) with
          | true => simp
          | false =>
            rw [hv] at hokr
            simp only [Bool.false_eq_true, if_false, Bool.not_false, Bool.true_and]
            rw [wrap_id (by omega) (by omega), show ((i : Int) + 1) = ((i + 1 : Nat) : Int) by omega]
            refine ih _ (i + 1) (by omega) (by omega) (fun j hj => ?_)
            by_cases e : j = i
            · subst e; rw [hokr]; rfl
            · exact hok j (by omega)
/-- THE CUTS: both tests tell the same. -/
theorem cuGood_eq (w h : Int) (l : List S87) (k : Nat) (hk : 2000 ≤ k) (hl : l.length ≤ 9223372036854775807) : spec_cuGood.f k w h l = impl_IsCut.f w h l := by
  unfold spec_cuGood.f impl_IsCut.f
  simp only [l1In_tot, Option.bind_some]
  obtain ⟨k, rfl⟩ : ∃ m, k = m + 1 := ⟨k - 1, by omega⟩
  cases b1 : winB w 1 500 with
  | false => simp [spec_cuGood.j0]
  | true =>
    cases b2 : winB h 1 500 with
    | false => simp [spec_cuGood.j0]
    | true =>
      simp only [if_true, Bool.true_and]
      have hw : 1 ≤ w ∧ w ≤ 500 := by unfold winB at b1; simpa using b1
      have hh : 1 ≤ h ∧ h ≤ 500 := by unfold winB at b2; simpa using b2
      by_cases h30 : l.length ≤ 30
      · by_cases h0 : l.length = 0
        · have : l = [] := List.eq_nil_of_length_eq_zero h0
          subst this
          have hb : winB ((([] : List S87).length : Nat) : Int) 1 30 = false := by decide
          rw [hb]
          simp only [spec_cuGood.j0, Bool.not_false, if_true, List.length_nil]
          have hp : 1 ≤ w * h ∧ w * h ≤ 250000 := ⟨Int.mul_pos (by omega) (by omega), by have := Int.mul_le_mul hw.2 hh.2 (by omega) (by omega); omega⟩
          have : impl_IsCut.all w h [] = false := by
            unfold impl_IsCut.all
            rw [wrap_id (by omega) (by omega)]
            simp only [List.length_nil, impl_IsCut.area]
            rw [decide_eq_false (by omega)]
            simp
          rw [this]
          simp
        · have hb : winB (l.length : Int) 1 30 = true := by unfold winB; simp; omega
          rw [hb]
          simp only [spec_cuGood.j0, Bool.not_true, Bool.false_eq_true, if_false]
          have := cuGood_l0 l w h hw hh h30 l.length k 0 (by omega) (by omega) (fun j hj => by omega)
          rw [show ((0 : Nat) : Int) = 0 from rfl] at this
          rw [show impl_IsCut.area l 0 = 0 from rfl] at this
          rw [this, decide_eq_true h30]
          simp [impl_IsCut.all, List.range_eq_range']
      · have hb : winB (l.length : Int) 1 30 = false := by unfold winB; simp; omega
        rw [hb, decide_eq_false h30]
        simp [spec_cuGood.j0]
/-! squares: copies, comparisons, marks -/
def convS (c : S89) : S87 := ⟨c.f0, c.f1, c.f2⟩
theorem rdT_lawsS (l : List S89) (i : Nat) (h : i < l.length) : rd_T89 l (i : Int) = l[i] := by simp [rd_T89, List.getD_eq_getElem?_getD, h]
theorem rdT_implS (l : List S87) (i : Nat) (h : i < l.length) : rd_T87 l (i : Int) = l[i] := by simp [rd_T87, List.getD_eq_getElem?_getD, h]
theorem toSquareS_l0 (x0 : List S89) (hb : x0.length < 4611686018427387904) (d : Nat) : ∀ (k : Nat) (x3 : List S87) (i : Nat), i + d = x0.length → x3.length = x0.length → d < k →
    laws_toSquareS.l0 k x0 x3 (i : Int) = some (x3.take i ++ (x0.drop i).map convS) := by
  induction d with
  | zero =>
    intro k x3 i hi hl hk
    obtain ⟨k, rfl⟩ : ∃ m, k = m + 1 := ⟨k - 1, by omega⟩
    simp only [laws_toSquareS.l0]
    rw [if_neg (by omega)]
    have : i = x0.length := by omega
    subst this
    rw [List.take_of_length_le (by omega), List.drop_length]
    simp
  | succ d ih =>
    intro k x3 i hi hl hk
    obtain ⟨k, rfl⟩ : ∃ m, k = m + 1 := ⟨k - 1, by omega⟩
    have hlt : i < x0.length := by omega
    simp only [laws_toSquareS.l0]
    rw [if_pos (by omega), if_pos (by omega)]
    simp only [laws_toSquare.f, Option.bind_some]
    rw [if_pos (by omega), wrap_id (by omega) (by omega), rdT_lawsS x0 i hlt]
    have e : ((i : Int) + 1) = ((i + 1 : Nat) : Int) := by omega
    rw [e, ih k _ (i + 1) (by omega) (by simp; omega) (by omega)]
    congr 1
    rw [Int.toNat_natCast, List.take_succ_eq_append_getElem (by simp; omega), List.getElem_set_self, List.take_set_of_le (Nat.le_refl _), List.append_assoc]
    congr 1
    rw [List.drop_eq_getElem_cons hlt]
    rfl
theorem toSquareS_eq (l : List S89) (k : Nat) (hk : l.length < k) (hb : l.length ≤ 11728124029610) : laws_toSquareS.f k l = some (l.map convS) := by
  unfold laws_toSquareS.f
  rw [if_pos (by omega), if_pos (by omega), show (0 : Int) = ((0 : Nat) : Int) from rfl, toSquareS_l0 l (by omega) l.length k _ 0 (by omega) (by simp) hk]
  simp
theorem toCut_eq (a b : Int) (l : List S89) (k : Nat) (hk : l.length < k) (hb : l.length ≤ 11728124029610) : laws_toCut.f k a b l = some (a, b, l.map convS) := by
  unfold laws_toCut.f
  rw [toSquareS_eq l k hk hb]
  rfl
theorem szCut_eq (a b : Int) (l : List S89) (hm : l.length ≤ 9223372036854775807) : laws_szCut.f a b l 1048576 = some (if l.length ≤ 1048576 then 1048576 - (l.length : Int) else -1) := by
  unfold laws_szCut.f laws_szSquareS.f
  rw [wrap_id (by omega) (by omega)]
  by_cases h : l.length ≤ 1048576
  · rw [if_neg (by omega), if_pos h]
    simp only [Option.bind_some]
    rw [if_neg (by omega)]
  · rw [if_pos (by omega), if_neg h]
    simp
theorem eqSquareS_l0 (x : List S87) (hb : x.length < 4611686018427387904) (d : Nat) : ∀ (k : Nat) (i : Nat), i + d = x.length → d < k → laws_eqSquareS.l0 k x x (i : Int) = some true := by
  induction d with
  | zero =>
    intro k i hi hk
    obtain ⟨k, rfl⟩ : ∃ m, k = m + 1 := ⟨k - 1, by omega⟩
    simp only [laws_eqSquareS.l0]
    rw [if_neg (by omega)]
  | succ d ih =>
    intro k i hi hk
    obtain ⟨k, rfl⟩ : ∃ m, k = m + 1 := ⟨k - 1, by omega⟩
    simp only [laws_eqSquareS.l0]
    rw [if_pos (by omega), if_pos (by omega), if_pos (by omega)]
    simp only [laws_eqSquare.f, if_true, Option.bind_some]
    rw [wrap_id (by omega) (by omega), show ((i : Int) + 1) = ((i + 1 : Nat) : Int) by omega, ih k (i + 1) (by omega) (by omega)]
theorem eqCut_refl (a b : Int) (l : List S87) (k : Nat) (hk : l.length < k) (hb : l.length < 4611686018427387904) : laws_eqCut.f k a b l a b l = some true := by
  unfold laws_eqCut.f laws_eqSquareS.f
  rw [if_pos rfl, if_pos rfl, if_pos rfl, show (0 : Int) = ((0 : Nat) : Int) from rfl, eqSquareS_l0 l hb l.length k 0 (by omega) hk]
  rfl
/-- The marks that are put. -/
def marksS (m : Int) : Nat → List S87
  | 0 => []
  | n + 1 => ⟨m, m + 1, m + 1 + 1⟩ :: marksS (m + 1 + 1 + 1) n
theorem marksS_len (n : Nat) : ∀ m, (marksS m n).length = n := by
  induction n with
  | zero => intro m; rfl
  | succ n ih => intro m; simp [marksS, ih]
theorem markSquareS_l0 (d : Nat) : ∀ (k : Nat) (x : List S87) (m : Int) (i : Nat), i + d = x.length → x.length < 1000000000000000000 → 0 ≤ m → m + 3 * d < 4611686018427387904 → d < k →
    laws_markSquareS.l0 k x m (i : Int) = some (m + 3 * d, x.take i ++ marksS m d) := by
  induction d with
  | zero =>
    intro k x m i hi hx h0 hm hk
    obtain ⟨k, rfl⟩ : ∃ m, k = m + 1 := ⟨k - 1, by omega⟩
    simp only [laws_markSquareS.l0]
    rw [if_neg (by omega), List.take_of_length_le (by omega)]
    simp [marksS]
  | succ d ih =>
    intro k x m i hi hx h0 hm hk
    obtain ⟨k, rfl⟩ : ∃ m, k = m + 1 := ⟨k - 1, by omega⟩
    simp only [laws_markSquareS.l0]
    rw [if_pos (by omega), if_pos (by omega)]
    simp only [Option.bind_some, Int.toNat_natCast]
    rw [wrap_id (x := m + 1) (by omega) (by omega), wrap_id (x := m + 1 + 1) (by omega) (by omega), wrap_id (x := m + 1 + 1 + 1) (by omega) (by omega), wrap_id (x := (i : Int) + 1) (by omega) (by omega)]
    have hlt : i < x.length := by omega
    simp only [rdT_implS _ i (show i < (x.set i _).length by simpa using hlt), rdT_implS _ i (show i < ((x.set i _).set i _).length by simpa using hlt), List.getElem_set_self, List.set_set]
    rw [show ((i : Int) + 1) = ((i + 1 : Nat) : Int) by omega, ih k _ _ (i + 1) (by simp; omega) (by simpa using hx) (by omega) (by omega) (by omega)]
    congr 1
    rw [Prod.mk.injEq]
    refine ⟨by omega, ?_⟩
    rw [List.take_succ_eq_append_getElem (by simpa using hlt), List.getElem_set_self, List.take_set_of_le (Nat.le_refl _), List.append_assoc]
    rfl
theorem markCut_eq (a b : Int) (l : List S87) (k : Nat) (hk : l.length < k) (hb : l.length < 1000000000000000000) : laws_markCut.f k a b l 1 = some (1 + 3 * (l.length : Int), marksS 1 l.length) := by
  unfold laws_markCut.f laws_markSquareS.f
  rw [show (0 : Int) = ((0 : Nat) : Int) from rfl, markSquareS_l0 l.length k l 1 0 (by omega) hb (by omega) (by omega) hk]
  simp
/-! lists of numbers: comparisons, marks -/
theorem rdI (l : List Int) (i : Nat) (h : i < l.length) : rd l (i : Int) = l[i] := by simp [rd, List.getD_eq_getElem?_getD, h]
theorem eqIntS_l0 (x : List Int) (hb : x.length < 4611686018427387904) (d : Nat) : ∀ (k : Nat) (i : Nat), i + d = x.length → d < k → laws_eqIntS.l0 k x x (i : Int) = some true := by
  induction d with
  | zero =>
    intro k i hi hk
    obtain ⟨k, rfl⟩ : ∃ m, k = m + 1 := ⟨k - 1, by omega⟩
    simp only [laws_eqIntS.l0]
    rw [if_neg (by omega)]
  | succ d ih =>
    intro k i hi hk
    obtain ⟨k, rfl⟩ : ∃ m, k = m + 1 := ⟨k - 1, by omega⟩
    simp only [laws_eqIntS.l0]
    rw [if_pos (by omega), if_pos (by omega), if_pos (by omega), if_pos trivial, wrap_id (by omega) (by omega), show ((i : Int) + 1) = ((i + 1 : Nat) : Int) by omega, ih k (i + 1) (by omega) (by omega)]
theorem eqIntS_refl (l : List Int) (k : Nat) (hk : l.length < k) (hb : l.length < 4611686018427387904) : laws_eqIntS.f k l l = some true := by
  unfold laws_eqIntS.f
  rw [if_pos rfl, show (0 : Int) = ((0 : Nat) : Int) from rfl, eqIntS_l0 l hb l.length k 0 (by omega) hk]
/-- The marks that are put. -/
def marksI (m : Int) : Nat → List Int
  | 0 => []
  | n + 1 => m :: marksI (m + 1) n
theorem marksI_len (n : Nat) : ∀ m, (marksI m n).length = n := by
  induction n with
  | zero => intro m; rfl
  | succ n ih => intro m; simp [marksI, ih]
theorem markIntS_l0 (d : Nat) : ∀ (k : Nat) (x : List Int) (m : Int) (i : Nat), i + d = x.length → x.length < 1000000000000000000 → 0 ≤ m → m + d < 4611686018427387904 → d < k →
    laws_markIntS.l0 k x m (i : Int) = some (m + d, x.take i ++ marksI m d) := by
  induction d with
  | zero =>
    intro k x m i hi hx h0 hm hk
    obtain ⟨k, rfl⟩ : ∃ m, k = m + 1 := ⟨k - 1, by omega⟩
    simp only [laws_markIntS.l0]
    rw [if_neg (by omega), List.take_of_length_le (by omega)]
    simp [marksI]
  | succ d ih =>
    intro k x m i hi hx h0 hm hk
    obtain ⟨k, rfl⟩ : ∃ m, k = m + 1 := ⟨k - 1, by omega⟩
    have hlt : i < x.length := by omega
    simp only [laws_markIntS.l0]
    rw [if_pos (by omega), if_pos (by omega), wrap_id (x := m + 1) (by omega) (by omega), wrap_id (x := (i : Int) + 1) (by omega) (by omega), Int.toNat_natCast]
    rw [show ((i : Int) + 1) = ((i + 1 : Nat) : Int) by omega, ih k _ _ (i + 1) (by simp; omega) (by simpa using hx) (by omega) (by omega) (by omega)]
    congr 1
    rw [Prod.mk.injEq]
    refine ⟨by omega, ?_⟩
    rw [List.take_succ_eq_append_getElem (by simpa using hlt), List.getElem_set_self, List.take_set_of_le (Nat.le_refl _), List.append_assoc]
    rfl
theorem markIntS_eq (l : List Int) (k : Nat) (hk : l.length < k) (hb : l.length < 1000000000000000000) : laws_markIntS.f k l 1 = some (1 + (l.length : Int), marksI 1 l.length) := by
  unfold laws_markIntS.f
  rw [show (0 : Int) = ((0 : Nat) : Int) from rfl, markIntS_l0 l.length k l 1 0 (by omega) hb (by omega) (by omega) hk]
  simp
theorem heldIntS_l0 (d : Nat) : ∀ (k : Nat) (x : List Int) (m : Int) (i : Nat), i + d = x.length → x.drop i = marksI m d → x.length < 1000000000000000000 → 0 ≤ m → m + d < 4611686018427387904 → d < k →
    laws_heldIntS.l0 k x m (i : Int) = some (m + d) := by
  induction d with
  | zero =>
    intro k x m i hi hd hx h0 hm hk
    obtain ⟨k, rfl⟩ : ∃ m, k = m + 1 := ⟨k - 1, by omega⟩
    simp only [laws_heldIntS.l0]
    rw [if_neg (by omega)]
    simp
  | succ d ih =>
    intro k x m i hi hd hx h0 hm hk
    obtain ⟨k, rfl⟩ : ∃ m, k = m + 1 := ⟨k - 1, by omega⟩
    have hlt : i < x.length := by omega
    rw [List.drop_eq_getElem_cons hlt, marksI, List.cons.injEq] at hd
    obtain ⟨h1, h2⟩ := hd
    simp only [laws_heldIntS.l0]
    rw [if_pos (by omega), if_pos (by omega), rdI x i hlt, if_pos h1, wrap_id (x := m + 1) (by omega) (by omega), wrap_id (x := (i : Int) + 1) (by omega) (by omega)]
    rw [show ((i : Int) + 1) = ((i + 1 : Nat) : Int) by omega, ih k x _ (i + 1) (by omega) h2 hx (by omega) (by omega) (by omega)]
    congr 1
    omega
theorem heldIntS_eq (n : Nat) (k : Nat) (hk : n < k) (hb : n < 1000000000000000000) : laws_heldIntS.f k (marksI 1 n) 1 = some (1 + (n : Int)) := by
  unfold laws_heldIntS.f
  rw [show (0 : Int) = ((0 : Nat) : Int) from rfl, heldIntS_l0 n k (marksI 1 n) 1 0 (by rw [marksI_len]; omega) rfl (by rw [marksI_len]; omega) (by omega) (by omega) hk]
theorem st_tail (k : Nat) (o : List S87) (x12 : List S87) (x13 x14 a b c : Int) (j : Nat) (hj : j ≤ o.length) (ho : o.length ≤ 1000000) :
    ((some (([] : List (S87)) : List (S87))).bind fun y132 => (if 0 ≤ (j : Int) then (if (j : Int) ≤ (o.length : Int) then ((some (o.take ((j : Int) : Int).toNat : List (S87))).bind fun y135 => (if y132.length + y135.length < 5864062014805 then ((some (y132 ++ y135 : List (S87))).bind fun y139 => ((some (([(⟨a, b, c⟩ : S87)] : List (S87)) : List (S87))).bind fun y142 => (if y139.length + y142.length < 5864062014805 then ((some (y139 ++ y142 : List (S87))).bind fun y145 => ((some (o.drop ((j : Int) : Int).toNat : List (S87))).bind fun y148 => (if y145.length + y148.length < 5864062014805 then (spec_stSides.l0 k (y145 ++ y148) x12 x13 (wrap64 (x14 + 1))) else (none)))) else (none)))) else (none))) else (none)) else (none)))
    = spec_stSides.l0 k (o.take j ++ (⟨a, b, c⟩ : S87) :: o.drop j) x12 x13 (wrap64 (x14 + 1)) := by
  have h1 : (o.take j).length ≤ 1000000 := by rw [List.length_take]; omega
  have h2 : (o.drop j).length ≤ 1000000 := by rw [List.length_drop]; omega
  rw [Option.bind_some, if_pos (by omega), if_pos (by omega), Option.bind_some, Int.toNat_natCast, if_pos (by rw [List.length_nil]; omega), Option.bind_some, Option.bind_some, if_pos (by rw [List.nil_append, List.length_singleton]; omega), Option.bind_some, Option.bind_some,
    if_pos (by rw [List.nil_append, List.length_append, List.length_singleton]; omega), List.nil_append, List.append_assoc]
  rfl
def xyLt (s t : S87) : Prop := s.f0 < t.f0 ∨ (s.f0 = t.f0 ∧ s.f1 < t.f1)
theorem st_l1 (s : S87) (o x12 : List S87) (x13 x14 : Int) (ho : o.length ≤ 1000000) (hs : o.Pairwise (fun x y => xyLe x y = true)) : ∀ (j k : Nat), j ≤ o.length → (∀ t ∈ o.drop j, xyLt s t) → j < k →
    ∃ o' k', spec_stSides.l1 k o (j : Int) x12 x13 x14 s.f0 s.f1 s.f2 = spec_stSides.l0 k' o' x12 x13 (wrap64 (x14 + 1)) ∧ o'.Perm (s :: o) ∧ o'.Pairwise (fun x y => xyLe x y = true) ∧ k ≤ k' + j + 1
  | 0, k, hj, hd, hk => by
    obtain ⟨k, rfl⟩ : ∃ m, k = m + 1 := ⟨k - 1, by omega⟩
    refine ⟨s :: o, k, ?_, List.Perm.refl _, ?_, by omega⟩
    · simp only [spec_stSides.l1]
      rw [if_neg (by omega), st_tail k o x12 x13 x14 s.f0 s.f1 s.f2 0 (by omega) ho]
      rfl
    · rw [List.pairwise_cons]
      refine ⟨fun t ht => ?_, hs⟩
      have := hd t (by simpa using ht)
      unfold xyLt at this
      unfold xyLe
      simp
      omega
  | j + 1, k, hj, hd, hk => by
    obtain ⟨k, rfl⟩ : ∃ m, k = m + 1 := ⟨k - 1, by omega⟩
    have hlt : j < o.length := by omega
    have hw : wrap64 (((j + 1 : Nat) : Int) - 1) = (j : Int) := by rw [wrap_id (by omega) (by omega)]; omega
    have hstop : ¬ xyLt s o[j] → ∃ o' k', spec_stSides.l0 k (o.take (j + 1) ++ s :: o.drop (j + 1)) x12 x13 (wrap64 (x14 + 1)) = spec_stSides.l0 k' o' x12 x13 (wrap64 (x14 + 1)) ∧ o'.Perm (s :: o) ∧ o'.Pairwise (fun x y => xyLe x y = true) ∧ k + 1 ≤ k' + (j + 1) + 1 := by
      intro hn
      refine ⟨_, k, rfl, ?_, ?_, by omega⟩
      · have := List.perm_middle (a := s) (l₁ := o.take (j + 1)) (l₂ := o.drop (j + 1))
        rwa [List.take_append_drop] at this
      · rw [List.pairwise_append]
        have hs2 := hs
        rw [← List.take_append_drop (j + 1) o, List.pairwise_append] at hs2
        obtain ⟨h1, h2, h3⟩ := hs2
        refine ⟨h1, ?_, ?_⟩
        · rw [List.pairwise_cons]
          refine ⟨fun t ht => ?_, h2⟩
          have := hd t ht
          unfold xyLt at this
          unfold xyLe
          simp
          omega
        · intro a ha b hb
          rcases List.mem_cons.mp hb with rfl | hb
          · have haj : xyLe a o[j] = true := by
              obtain ⟨i, hi, rfl⟩ := List.getElem_of_mem ha
              rw [List.length_take] at hi
              rw [List.getElem_take]
              rcases Nat.lt_or_ge i j with hij | hij
              · exact (List.pairwise_iff_getElem.mp hs) i j (by omega) hlt hij
              · have : i = j := by omega
                subst this
                unfold xyLe
                simp
            unfold xyLt at hn
            unfold xyLe at haj ⊢
            simp at haj ⊢
            omega
          · exact h3 a ha b hb
    simp only [spec_stSides.l1]
    rw [if_pos (by omega), hw, if_pos (by omega), if_pos (by omega), rdS o j hlt]
    by_cases h1 : xyLt s o[j]
    · have ih := st_l1 s o x12 x13 x14 ho hs j k (by omega) (fun t ht => by
        rw [List.drop_eq_getElem_cons hlt] at ht
        rcases List.mem_cons.mp ht with rfl | ht
        · exact h1
        · exact hd t ht) (by omega)
      obtain ⟨o', k', e, hp, hso, hkk⟩ := ih
      refine ⟨o', k', ?_, hp, hso, by omega⟩
      rcases h1 with h1 | ⟨h1, h2⟩
      · rw [if_pos h1, e]
      · rw [if_neg (by omega), if_pos h1, if_pos h2, e]
    · have hst := hstop h1
      unfold xyLt at h1
      by_cases h2 : s.f0 = o[j].f0
      · rw [if_neg (by omega), if_pos h2, if_neg (by omega), st_tail k o x12 x13 x14 s.f0 s.f1 s.f2 (j + 1) (by omega) ho]
        exact hst
      · rw [if_neg (by omega), if_neg h2, st_tail k o x12 x13 x14 s.f0 s.f1 s.f2 (j + 1) (by omega) ho]
        exact hst
theorem st_l2 (o : List S87) (ho : o.length ≤ 1000000) : ∀ (d n : Nat) (k : Nat) (acc : List Int), n + d = o.length → acc.length = n → d < k → spec_stSides.l2 k acc o (o.length : Int) (n : Int) = some (acc ++ (o.drop n).map (·.f2))
  | 0, n, k, acc, hn, ha, hk => by
    obtain ⟨k, rfl⟩ : ∃ m, k = m + 1 := ⟨k - 1, by omega⟩
    simp only [spec_stSides.l2]
    rw [if_neg (by omega), List.drop_eq_nil_of_le (by omega)]
    simp
  | d + 1, n, k, acc, hn, ha, hk => by
    obtain ⟨k, rfl⟩ : ∃ m, k = m + 1 := ⟨k - 1, by omega⟩
    have hlt : n < o.length := by omega
    simp only [spec_stSides.l2]
    rw [if_pos (by omega), if_pos (by omega), if_pos (by omega), Option.bind_some, if_pos (by rw [List.length_singleton]; omega), wrap_id (by omega) (by omega), show ((n : Int) + 1) = ((n + 1 : Nat) : Int) by omega,
      st_l2 o ho d (n + 1) k _ (by omega) (by rw [List.length_append, ha, List.length_singleton]) (by omega), rdS o n hlt, List.drop_eq_getElem_cons hlt, List.map_cons, List.append_assoc]
    rfl
theorem xy_uniq (l o : List S87) (hN : l.Pairwise xyNe) (hp : o.Perm l) (hs : o.Pairwise (fun x y => xyLe x y = true)) : o = xySort l := by
  have one : ∀ q : List S87, q.Perm l → q.Pairwise (fun x y => xyLe x y = true) → q.Pairwise (fun x y => xyLe x y = true ∧ (xyLe y x = true → x = y)) := by
    intro q hq hqs
    have hNs : q.Pairwise xyNe := hq.symm.pairwise hN (fun {x y} h e => h ⟨e.1.symm, e.2.symm⟩)
    refine (hqs.and hNs).imp ?_
    intro a b hab
    obtain ⟨h1, h2⟩ := hab
    refine ⟨h1, fun h4 => ?_⟩
    unfold xyNe at h2
    unfold xyLe at h1 h4
    simp at h1 h4
    exact absurd ⟨by omega, by omega⟩ h2
  have hm : (xySort l).Perm l := List.mergeSort_perm l xyLe
  refine List.Perm.eq_of_pairwise (le := fun x y => xyLe x y = true ∧ (xyLe y x = true → x = y)) (fun a b _ _ h1 h2 => h1.2 h2.1) (one o hp hs) (one _ hm ?_) (hp.trans hm.symm)
  exact List.pairwise_mergeSort (fun a b c h1 h2 => by unfold xyLe at *; simp at *; omega) (fun a b => by unfold xyLe; simp; omega) l
theorem st_l0 (l : List S87) (hl : l.length ≤ 1000000) (hN : l.Pairwise xyNe) : ∀ (d i k : Nat) (o : List S87), i + d = l.length → o.Perm (l.take i) → o.Pairwise (fun x y => xyLe x y = true) → (d + 1) * (l.length + 3) < k →
    spec_stSides.l0 k o l (l.length : Int) (i : Int) = some ((xySort l).map (·.f2))
  | 0, i, k, o, hi, hp, hs, hk => by
    obtain ⟨k, rfl⟩ : ∃ m, k = m + 1 := ⟨k - 1, by omega⟩
    rw [List.take_of_length_le (by omega)] at hp
    have e := xy_uniq l o hN hp hs
    have hlen := hp.length_eq
    simp only [spec_stSides.l0]
    rw [if_neg (by omega), show (0 : Int) = ((0 : Nat) : Int) from rfl, st_l2 o (by omega) o.length 0 k [] (by omega) rfl (by omega), e]
    rfl
  | d + 1, i, k, o, hi, hp, hs, hk => by
    obtain ⟨k, rfl⟩ : ∃ m, k = m + 1 := ⟨k - 1, by omega⟩
    have hlt : i < l.length := by omega
    have hlen : o.length = i := by have := hp.length_eq; rw [List.length_take] at this; omega
    have hmul : (d + 1 + 1) * (l.length + 3) = (d + 1) * (l.length + 3) + (l.length + 3) := by rw [Nat.add_mul (d + 1) 1, Nat.one_mul]
    obtain ⟨o', k', e, hp', hs', hkk⟩ := st_l1 l[i] o l (l.length : Int) (i : Int) (by omega) hs o.length k (by omega) (fun t ht => by simp at ht) (by omega)
    simp only [spec_stSides.l0]
    rw [if_pos (by omega), if_pos (by omega), if_pos (by omega), rdS l i hlt, e, wrap_id (by omega) (by omega), show ((i : Int) + 1) = ((i + 1 : Nat) : Int) by omega]
    refine st_l0 l hl hN d (i + 1) k' o' (by omega) ?_ hs' (by omega)
    rw [List.take_succ_eq_append_getElem hlt]
    exact hp'.trans ((List.Perm.cons _ hp).trans (List.perm_append_singleton _ _).symm)
theorem stSides_eq (w h : Int) (l : List S87) (hl : l.length ≤ 1000000) (hN : l.Pairwise xyNe) (k : Nat) (hk : (l.length + 1) * (l.length + 3) < k) : spec_stSides.f k w h l = some ((xySort l).map (·.f2)) := by
  unfold spec_stSides.f
  exact st_l0 l hl hN l.length 0 k [] (by omega) (by simp) List.Pairwise.nil hk
theorem over_same (w h : Int) (s t : S87) (hw : w ≤ 500) (hh : h ≤ 500) (hs : inR w h s) (ht : inR w h t) (e0 : s.f0 = t.f0) (e1 : s.f1 = t.f1) : impl_IsCut.over s t = true := by
  unfold inR at hs ht
  unfold impl_IsCut.over impl_overlap.f
  rw [wrap_id (x := t.f0 + t.f2) (by omega) (by omega), wrap_id (x := s.f0 + s.f2) (by omega) (by omega), wrap_id (x := t.f1 + t.f2) (by omega) (by omega), wrap_id (x := s.f1 + s.f2) (by omega) (by omega)]
  rw [if_pos (by omega), if_pos (by omega), if_pos (by omega), decide_eq_true (by omega)]
  rfl
theorem cut_facts (w h : Int) (l : List S87) (hc : impl_IsCut.f w h l = some true) : 0 < l.length ∧ l.length ≤ 30 ∧ (∀ s ∈ l, xyQ s) ∧ l.Pairwise xyNe := by
  unfold impl_IsCut.f at hc
  have hc := Option.some.inj hc
  rw [Bool.and_eq_true, Bool.and_eq_true, Bool.and_eq_true, decide_eq_true_eq] at hc
  obtain ⟨⟨⟨h1, h2⟩, h3⟩, h4⟩ := hc
  have hw : 1 ≤ w ∧ w ≤ 500 := by unfold winB at h1; simpa using h1
  have hh : 1 ≤ h ∧ h ≤ 500 := by unfold winB at h2; simpa using h2
  unfold impl_IsCut.all at h4
  rw [Bool.and_eq_true, List.all_eq_true, decide_eq_true_eq] at h4
  obtain ⟨h4, h5⟩ := h4
  have hok : ∀ i : Nat, i < l.length → impl_IsCut.ok w h l (i : Int) = true := fun i hi => h4 i (by simpa using hi)
  have hin : ∀ (i : Nat) (hi : i < l.length), inR w h l[i] := fun i hi => by
    have := ok_inR w h l i hw hh (hok i hi)
    rwa [rdS l i hi] at this
  refine ⟨?_, h3, ?_, ?_⟩
  · rcases Nat.eq_zero_or_pos l.length with h0 | h0
    · exfalso
      have : l = [] := List.eq_nil_of_length_eq_zero h0
      subst this
      have hp : 1 ≤ w * h ∧ w * h ≤ 250000 := ⟨Int.mul_pos (by omega) (by omega), by have := Int.mul_le_mul hw.2 hh.2 (by omega) (by omega); omega⟩
      rw [wrap_id (by omega) (by omega)] at h5
      simp only [List.length_nil, impl_IsCut.area] at h5
      omega
    · exact h0
  · intro s hs
    obtain ⟨i, hi, rfl⟩ := List.getElem_of_mem hs
    have := hin i hi
    unfold inR at this
    unfold xyQ
    omega
  · rw [List.pairwise_iff_getElem]
    intro i j hi hj hij
    have hk := hok j hj
    unfold impl_IsCut.ok at hk
    rw [Bool.and_eq_true, Bool.not_eq_true', List.any_eq_false] at hk
    have h6 := hk.2 l[i] (by rw [List.mem_take_iff_getElem]; exact ⟨i, by omega, rfl⟩)
    rw [rdS l j hj] at h6
    intro e
    exact h6 (over_same w h l[j] l[i] hw.2 hh.2 (hin j hj) (hin i hi) e.1.symm e.2.symm)
theorem stSize_eq (a b : Int) : spec_stSize.f a b = impl_isStripSize.f a b := by
  unfold spec_stSize.f impl_isStripSize.f
  simp only [l1In_tot, impl_within.tot2]
theorem stripSize_tot (a b : Int) : ∃ r, impl_isStripSize.f a b = some r := by
  unfold impl_isStripSize.f
  simp only [impl_within.tot2, Option.bind_some]
  split <;> exact ⟨_, rfl⟩
theorem FillSides_eq (w h : Int) (l : List S87) (k : Nat) (hk : 2000 ≤ k) (hl : l.length ≤ 9223372036854775807) : ∃ r, spec_FillSides.f k w h l = some r ∧ impl_FillSides.f w h l = some r ∧ r.1.length ≤ 30 := by
  unfold spec_FillSides.f impl_FillSides.f spec_stGood.f impl_isStrip.f
  rw [cuGood_eq w h l k hk hl, stSize_eq]
  obtain ⟨b, hb⟩ : ∃ b, impl_IsCut.f w h l = some b := ⟨_, rfl⟩
  rw [hb]
  simp only [Option.bind_some]
  cases b with
  | false => simp only [Bool.false_eq_true, if_false, Option.bind_some]; exact ⟨_, rfl, rfl, by simp⟩
  | true =>
    obtain ⟨c, hc⟩ := stripSize_tot h w
    simp only [if_true]
    rw [hc]
    simp only [Option.bind_some]
    cases c with
    | false => simp only [Bool.false_eq_true, if_false]; exact ⟨_, rfl, rfl, by simp⟩
    | true =>
      obtain ⟨f1, f2, f3, f4⟩ := cut_facts w h l hb
      have hmul : (l.length + 1) * (l.length + 3) ≤ 31 * 33 := Nat.mul_le_mul (by omega) (by omega)
      simp only [if_true]
      rw [stSides_eq w h l (by omega) f4 k (by omega)]
      unfold impl_fillSides.f
      rw [if_pos f1, if_pos (by omega), if_pos f3, if_pos f4]
      refine ⟨_, rfl, rfl, ?_⟩
      have : (xySort l).length = l.length := (List.mergeSort_perm l xyLe).length_eq
      simp only [List.length_map]
      omega
theorem FnExactFillSides.pure (w h : Int) (l : List S89) (_ : (Lit.int .i64 w).wf = true) (_ : (Lit.int .i64 h).wf = true) (hm : l.length ≤ 9223372036854775807) (_ : ∀ y ∈ l, (Lit.int .i64 y.f0).wf = true ∧ (Lit.int .i64 y.f1).wf = true ∧ (Lit.int .i64 y.f2).wf = true) :
    ∃ k, laws_FnExactFillSides.f k w h l = some true := by
  by_cases hl : l.length ≤ 1048576
  · refine ⟨l.length + 3000, ?_⟩
    unfold laws_FnExactFillSides.f
    rw [szCut_eq _ _ _ hm, if_pos hl]
    simp only [Option.bind_some]
    rw [if_neg (by omega), toCut_eq _ _ _ _ (by omega) (by omega)]
    simp only [Option.bind_some]
    obtain ⟨r, h1, h2, h3⟩ := FillSides_eq w h (l.map convS) (l.length + 3000) (by omega) (by rw [List.length_map]; omega)
    rw [h1, h2]
    simp only [Option.bind_some]
    rw [eqIntS_refl _ _ (by omega) (by omega)]
    simp only [Option.bind_some, if_true, bne_self_eq_false]
    simp only [laws_FnExactFillSides.j0]
    rw [toCut_eq _ _ _ _ (by omega) (by omega)]
    simp only [Option.bind_some, Bool.false_eq_true, if_false]
    rw [eqCut_refl _ _ _ _ (by simp <;> omega) (by simp <;> omega)]
    simp only [Option.bind_some, if_true]
    rw [markCut_eq _ _ _ _ (by simp <;> omega) (by simp <;> omega)]
    simp only [Option.bind_some]
    rw [if_neg (by omega), eqIntS_refl _ _ (by omega) (by omega)]
    simp only [Option.bind_some, if_true]
    simp only [laws_FnExactFillSides.j1, bne_self_eq_false, Bool.false_eq_true, if_false]
    rw [markIntS_eq _ _ (by omega) (by omega)]
    simp only [Option.bind_some]
    rw [heldIntS_eq _ _ (by omega) (by omega)]
    simp only [Option.bind_some, if_true]
    rw [if_neg (by omega), toCut_eq _ _ _ _ (by omega) (by omega)]
    simp only [Option.bind_some]
    rw [h2]
    simp only [Option.bind_some]
    rw [eqIntS_refl _ _ (by omega) (by omega)]
    simp only [Option.bind_some, if_true, bne_self_eq_false]
    simp only [laws_FnExactFillSides.j2, bne_self_eq_false, Bool.false_eq_true, if_false]
    rw [heldIntS_eq _ _ (by omega) (by omega)]
    simp only [Option.bind_some, if_true]
    rw [if_neg (by omega)]
  · refine ⟨0, ?_⟩
    unfold laws_FnExactFillSides.f
    rw [szCut_eq _ _ _ hm, if_neg hl]
    simp
end Go.Proofs.Ytipiaiolhhnnhaa.PFnExactFillSides
