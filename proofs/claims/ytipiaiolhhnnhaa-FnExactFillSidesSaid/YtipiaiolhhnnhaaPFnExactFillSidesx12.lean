-- Written by a program of this session (wip/tools/pg.py) out of the translation.
import Derived.Test.YtipiaiolhhnnhaaPFnExactFillSidesx0
import Derived.Test.YtipiaiolhhnnhaaPFnExactFillSidesx10
import Derived.Test.YtipiaiolhhnnhaaPFnExactFillSidesx11
namespace Go.Proofs.Ytipiaiolhhnnhaa.PFnExactFillSides
open Go.RowKit Go.Proofs.YtipiaiolhhnnhaaW.PrintWords Go.Proofs.YtipiaiolhhnnhaaW.PrintLast Go.Proofs.YtipiaiolhhnnhaaW.PrintMore Go.Proofs.YtipiaiolhhnnhaaH
attribute [local go_sem] max2_int min2_int max_two min_two max_three min_three max_four min_four   -- for this text's walks alone
set_option linter.unusedVariables false
set_option linter.unusedSimpArgs false

/-! ### impl_fillSides: function 33 (by hand) -/
/- x 64 65 67 -/
def xyLe (s t : S87) : Bool := decide (s.f0 < t.f0) || (decide (s.f0 = t.f0) && decide (s.f1 ≤ t.f1))
def xyQ (s : S87) : Prop := (-1000 ≤ s.f0 ∧ s.f0 ≤ 1000) ∧ (-1000 ≤ s.f1 ∧ s.f1 ≤ 1000)
instance (s : S87) : Decidable (xyQ s) := by unfold xyQ; infer_instance
def xyNe (s t : S87) : Prop := ¬ (s.f0 = t.f0 ∧ s.f1 = t.f1)
instance (s t : S87) : Decidable (xyNe s t) := by unfold xyNe; infer_instance
def xyCmp (s t : S87) : Int := if s.f0 = t.f0 then wrap64 (s.f1 - t.f1) else wrap64 (s.f0 - t.f0)
def xySort (l : List S87) : List S87 := l.mergeSort xyLe
theorem xyCmp_lt (s t : S87) (hs : xyQ s) (ht : xyQ t) : decide (xyCmp s t < 0) = (decide (s.f0 < t.f0) || (decide (s.f0 = t.f0) && decide (s.f1 < t.f1))) := by
  obtain ⟨⟨a, b⟩, c, d⟩ := hs
  obtain ⟨⟨a', b'⟩, c', d'⟩ := ht
  unfold xyCmp
  by_cases h : s.f0 = t.f0
  · rw [if_pos h]
    have e : wrap64 (s.f1 - t.f1) = s.f1 - t.f1 := by unfold wrap64; omega
    rw [e, Bool.eq_iff_iff]; simp; omega
  · rw [if_neg h]
    have e : wrap64 (s.f0 - t.f0) = s.f0 - t.f0 := by unfold wrap64; omega
    rw [e, Bool.eq_iff_iff]; simp; omega
theorem xy_swo : Go.Sort.SWO (Go.Proofs.ltOf fun x y : {s // xyQ s} => xyCmp x.1 y.1) where
  irrefl x := by unfold Go.Proofs.ltOf; rw [xyCmp_lt _ _ x.2 x.2]; simp
  trans x y z h1 h2 := by
    unfold Go.Proofs.ltOf at *
    rw [xyCmp_lt _ _ x.2 y.2] at h1; rw [xyCmp_lt _ _ y.2 z.2] at h2; rw [xyCmp_lt _ _ x.2 z.2]
    simp at *; omega
  ntrans x y z h1 h2 := by
    unfold Go.Proofs.ltOf at *
    rw [xyCmp_lt _ _ x.2 y.2] at h1; rw [xyCmp_lt _ _ y.2 z.2] at h2; rw [xyCmp_lt _ _ x.2 z.2]
    simp at *; omega
theorem xySort_one (l l' : List S87) (hQ : ∀ s ∈ l, xyQ s) (hN : l.Pairwise xyNe) (hp : l'.Perm l) (hs : l'.Pairwise (fun x y => 0 ≤ xyCmp y x)) : l' = xySort l := by
  have hQ' : ∀ s ∈ l', xyQ s := fun s h => hQ s (hp.mem_iff.mp h)
  have hN' : l'.Pairwise xyNe := hp.symm.pairwise hN (fun {x y} h e => h ⟨e.1.symm, e.2.symm⟩)
  refine List.Perm.eq_of_pairwise (le := fun x y => xyLe x y = true ∧ (xyLe y x = true → x = y)) ?_ ?_ ?_ (hp.trans (List.mergeSort_perm l xyLe).symm)
  · intro a b _ _ h1 h2
    exact h1.2 h2.1
  · refine (hs.and hN').imp_of_mem ?_
    intro a b ha hb hab
    obtain ⟨h1, h2⟩ := hab
    have h3 := xyCmp_lt b a (hQ' b hb) (hQ' a ha)
    rw [decide_eq_false (by omega)] at h3
    unfold xyNe at h2
    unfold xyLe
    simp at h3 ⊢
    constructor
    · omega
    · intro h4; exact absurd ⟨by omega, by omega⟩ h2
  · have hNs : (xySort l).Pairwise xyNe := (List.mergeSort_perm l xyLe).symm.pairwise hN (fun {x y} h e => h ⟨e.1.symm, e.2.symm⟩)
    have hle : (xySort l).Pairwise (fun x y => xyLe x y = true) := List.pairwise_mergeSort (fun a b c h1 h2 => by unfold xyLe at *; simp at *; omega) (fun a b => by unfold xyLe; simp; omega) l
    refine (hle.and hNs).imp ?_
    intro a b hab
    obtain ⟨h1, h2⟩ := hab
    refine ⟨h1, fun h4 => ?_⟩
    unfold xyNe at h2
    unfold xyLe at h1 h4
    simp at h1 h4
    exact absurd ⟨by omega, by omega⟩ h2
theorem impl_sides.run (l : List S87) (hl : l.length < 1000000) : ∀ (k n : Nat) (acc : List Int), n + k = l.length → acc.length = n → impl_sides.l0 (k + 1) acc l (l.length : Int) (n : Int) = some (acc ++ (l.drop n).map (·.f2))
  | 0, n, acc, hn, ha => by
    unfold impl_sides.l0
    rw [if_neg (by omega), List.drop_eq_nil_of_le (by omega)]
    simp
  | k + 1, n, acc, hn, ha => by
    unfold impl_sides.l0
    have hw : wrap64 ((n : Int) + 1) = ((n + 1 : Nat) : Int) := by unfold wrap64; omega
    rw [if_pos (by omega), if_pos (by omega), if_pos (by omega), if_pos (by omega), hw, impl_sides.run l hl k (n + 1) _ (by omega) (by simp [ha])]
    have hlt : n < l.length := by omega
    have hrd : rd_T87 l (n : Int) = l[n] := by simp [rd_T87, List.getD_eq_getElem?_getD, hlt]
    rw [hrd, List.drop_eq_getElem_cons hlt, List.map_cons, List.append_assoc]
    rfl
theorem impl_sides.tot (l : List S87) (hl : l.length < 1000000) : impl_sides.f (l.length + 1) l = some (l.map (·.f2)) := by
  unfold impl_sides.f
  have := impl_sides.run l hl l.length 0 [] (by omega) rfl
  simpa using this
def impl_fillSides.f (a0_0 : Int) (a0_1 : Int) (l0_2 : List S87) : Option (List Int) :=
  if 0 < l0_2.length then if l0_2.length ≤ 1000 then if ∀ s ∈ l0_2, xyQ s then if l0_2.Pairwise xyNe then some ((xySort l0_2).map (·.f2)) else none else none else none else none
set_option maxHeartbeats 8000000 in
set_option maxRecDepth 100000 in
theorem impl_fillSides.cmp (x y : S87) (W : World) : Calls Try.prog 66 #[.agg (encl_Square x).toArray, .agg (encl_Square y).toArray] W fun e w' => e = .returned (.int .i64 (xyCmp x y)) ∧ ∃ q os', w' = Go.Sort.grow (W.drewN q) os' := by
  simp only [encl_Square, xyCmp]
  have hu := Try.underlying87
  by_cases h : x.f0 = y.f0
  · rw [if_pos h, h]
    go_enter Try.func66, Try.ntmps66
    go_wp2
    go_ret
    exact ⟨rfl, 0, _, by rw [Go.Sort.alloc_eq_grow, Go.Sort.alloc_eq_grow, Go.Sort.grow_grow]; rfl⟩
  · rw [if_neg h]
    have hd : decide (x.f0 = y.f0) = false := decide_eq_false h
    go_enter Try.func66, Try.ntmps66
    go_wp2
    go_ret
    exact ⟨rfl, 0, _, by rw [Go.Sort.alloc_eq_grow, Go.Sort.alloc_eq_grow, Go.Sort.grow_grow]; rfl⟩
theorem impl_fillSides.drop {p : Prop} [Decidable p] {x : Option (List Int)} {r : List Int} (h : (if p then x else none) = some r) : p ∧ x = some r := by
  by_cases hp : p
  · rw [if_pos hp] at h; exact ⟨hp, h⟩
  · rw [if_neg hp] at h; cases h
theorem impl_fillSides.opens {a0_0 a0_1 : Int} {l0_2 : List S87} {r : List Int} (h : impl_fillSides.f a0_0 a0_1 l0_2 = some r) : 0 < l0_2.length ∧ l0_2.length ≤ 1000 ∧ (∀ s ∈ l0_2, xyQ s) ∧ l0_2.Pairwise xyNe ∧ (xySort l0_2).map (·.f2) = r := by
  unfold impl_fillSides.f at h
  obtain ⟨h1, h⟩ := impl_fillSides.drop h
  obtain ⟨h2, h⟩ := impl_fillSides.drop h
  obtain ⟨h3, h⟩ := impl_fillSides.drop h
  obtain ⟨h4, h⟩ := impl_fillSides.drop h
  exact ⟨h1, h2, h3, h4, Option.some.inj h⟩
set_option maxHeartbeats 8000000 in
set_option maxRecDepth 100000 in
theorem impl_fillSides.calls (a0_0 : Int) (a0_1 : Int) (A0_2 : Option Addr) (c0_2 : Nat) (l0_2 : List (S87)) (r : List Int) (w : World) (hr0_2 : Kd.C k87 w A0_2 l0_2.length l0_2) (hc0_2 : l0_2.length ≤ c0_2) (h : impl_fillSides.f a0_0 a0_1 l0_2 = some r) :
    Calls Try.prog 33 #[.agg #[.int .i64 a0_0, .int .i64 a0_1, .slice A0_2 l0_2.length c0_2]] w fun e w' => ∃ v0_ : Value, e = .returned (v0_) ∧ Kd.R (Kd.int .i64) 3 w' w.heap.size (fun _ => True) v0_ r ∧ Below w.heap.size w w' := by
  have hu31 := Try.underlying31
  have hu87 := Try.underlying87
  obtain ⟨hpos, hlen, hQ, hN, rfl⟩ := impl_fillSides.opens h
  clear h
  have hcl : ∀ w1, Kd.C k87 w1 A0_2 l0_2.length l0_2 → _ := fun w1 hh => impl_Square_64.calls A0_2 c0_2 l0_2 l0_2 w1 hh hc0_2 (by unfold impl_Square_64.f; rw [if_pos (by omega)])
  obtain ⟨z, hz⟩ : ∃ z, z ∈ l0_2 := ⟨l0_2[0], List.getElem_mem hpos⟩
  have eg : ∀ args w, (callFunc 66 args).run Try.prog w = .ok (.enter 66 args) w := enters_of Try.func66 (by kernel_rfl) rfl
  have hso := fun b n c w1 base ok hr => sort_Square xyQ z (hQ z hz) xyCmp xy_swo 66 eg (fun x y W => impl_fillSides.cmp x y W) b n c l0_2 hQ (by omega) w1 base ok hr
  have hxl : (xySort l0_2).length = l0_2.length := (List.mergeSort_perm l0_2 xyLe).length_eq
  have hsd : ∀ A c w1, Kd.C k87 w1 A (xySort l0_2).length (xySort l0_2) → l0_2.length ≤ c → Calls Try.prog 67 #[.slice A l0_2.length c] w1 fun e w' => ∃ v0_ : Value, e = .returned (v0_) ∧ Kd.R (Kd.int .i64) 3 w' w1.heap.size (fun _ => True) v0_ ((xySort l0_2).map (·.f2)) ∧ Below w1.heap.size w1 w' := by
    intro A c w1 hr hc
    have := impl_sides.calls ((xySort l0_2).length + 1) A c (xySort l0_2) ((xySort l0_2).map (·.f2)) w1 hr (by omega) (impl_sides.tot _ (by omega))
    rwa [hxl] at this
  have HQ := As_ hQ
  have HN := As_ hN
  have HR := As_ hr0_2
  have HS := As_ hso
  have HP := As_ hpos
  have HL := As_ hlen
  clear hQ hN hr0_2 hso hpos hlen hz hxl
  have HB := As_ (Below.refl w.heap.size w)
  go_enter Try.func33, Try.ntmps33
  go_wp2_with (first
    | (go_at_call 64; refine (hcl _ (Kd.C_below HR.out (below_alloc HB.out _))).mono ?_; rintro e w1 ⟨v, rfl, ho, hb⟩; obtain ⟨g, c, rfl, hg1, hg2, hg3⟩ := Kd.R_form ho HP.out; have HO := As_ ho; have HB1 := As_ (below_step (below_alloc HB.out _) hb); have HG := As_ hg1; clear ho hb hg1 hg2 hg3)
    | (go_at_call 65; refine (HS.out _ _ _ _ _ _ HO.out).mono ?_; rintro e w2 ⟨rfl, l', hp, hs, ho2, hb2⟩; obtain rfl := xySort_one l0_2 l' HQ.out HN.out hp hs; have HO2 := As_ ho2; have HB2 := As_ hb2; clear ho2 hb2 hp hs)
    | (go_at_call 67; refine (hsd _ _ _ (Kd.R_reads' HO2.out).2.2 (Kd.R_reads' HO2.out).2.1).mono ?_; rintro e w3 ⟨v, rfl, ho3, hb3⟩; have HO3 := As_ ho3; have HB3 := As_ hb3; clear ho3 hb3))
  go_ret
  have hb12 : Below w.heap.size w w2 := HB1.out.trans (HB2.out.mono (by simp))
  exact ⟨_, rfl, Kd.R_lower HO3.out hb12.size, below_step hb12 HB3.out⟩

end Go.Proofs.Ytipiaiolhhnnhaa.PFnExactFillSides
