-- Written by a program of this session (wip/tools/pg.py) out of the translation.
import Derived.Test.YtipiaiolhhnnhaaPFnExactMakePuzzlex0
import Derived.Test.YtipiaiolhhnnhaaPFnExactMakePuzzlex12
import Derived.Test.YtipiaiolhhnnhaaPFnExactMakePuzzlex16
import Derived.Test.YtipiaiolhhnnhaaPFnExactMakePuzzlex18
namespace Go.Proofs.Ytipiaiolhhnnhaa.PFnExactMakePuzzle
open Go.RowKit Go.Proofs.YtipiaiolhhnnhaaW.PrintWords Go.Proofs.YtipiaiolhhnnhaaW.PrintLast Go.Proofs.YtipiaiolhhnnhaaW.PrintMore Go.Proofs.YtipiaiolhhnnhaaH
attribute [local go_sem] max2_int min2_int max_two min_two max_three min_three max_four min_four   -- for this text's walks alone
set_option linter.unusedVariables false
set_option linter.unusedSimpArgs false

/-! ### impl_Cut_changed: function 120 (by hand) -/
/- under way: the closure of turned (DoesFit) -/
def turnS (h : Int) (s : S87) : S87 := ⟨wrap64 (wrap64 (h - s.f1) - s.f2), s.f0, s.f2⟩
set_option maxHeartbeats 8000000 in
set_option maxRecDepth 100000 in
theorem turned_cl (a b : Int) (v : Value) (s : S87) (g : Nat) (B : Nat) (W : World) (hg : W.heap[g]? = some (.cells #[.int .i64 a, .int .i64 b, v] 31 (0, 0))) (hB : B ≤ W.heap.size) :
  Calls Try.prog 121 #[enc_Square s, .pointer (some ⟨g, 0, none⟩)] W fun e w' => e = .returned (enc_Square (turnS b s)) ∧ Below B W w' := by
 have hu := Try.underlying87
 have hu2 := Try.underlying31
 have h1 : W.cell? ⟨g, 1, none⟩ = some (.int .i64 b) := (blk_cell hg 1).trans rfl
 have h2 : ∀ A B : Obj, ((W.alloc A).alloc B).cell? ⟨g, 1, none⟩ = some (.int .i64 b) := fun A B => ((below_alloc (below_alloc (Below.refl W.heap.size W) A) B).cell (p := ⟨g, 1, none⟩) (blk_lt hg)).trans h1
 have hne : ¬ g = W.heap.size := by have := blk_lt hg; omega
 have hne1 : ¬ g = W.heap.size + 1 := by have := blk_lt hg; omega
 have HB := As_ hB
 clear hB hg
 simp only [enc_Square, turnS]
 go_enter Try.func121, Try.ntmps121
 go_wp2
 refine bodyPost_ret (results_cell_row rfl _ _ (W.heap.size + 1) 87 #[.int .i64 (wrap64 (wrap64 (b - s.f1) - s.f2)), .int .i64 s.f0, .int .i64 s.f2] (0, 0) _ ?hp ?hq hu rfl (by kernel_rfl)) rfl ?_
 case hp => rfl
 case hq => show ((W.heap.push _).push _)[W.heap.size + 1]? = _; rw [Array.getElem?_push, if_pos (by simp)]
 exact ⟨rfl, ((Below.refl B W).alloc HB.out _).alloc (by have := HB.out; simp; omega) _⟩
/- x 65 83 -/
/-- A row leaves what lies ahead of its base alone. -/
theorem R_past {α : Type} {d : Kd α} {e : Nat} {w : World} {base : Nat} {ok : Nat → Prop} {v : Value} {xs : List α} (h : d.R e w base ok v xs) {p : Addr} (hp : p.block < base) (u : Value) : d.R e (w.setCell p u) base ok v xs :=
 Kd.R_mono (Kd.R_far (Kd.R_bound h) (p := p) (fun k hk => by have := hk.2.1; omega) u) (fun _ hk => hk.1)
def yxLe (s t : S87) : Bool := decide (s.f1 < t.f1) || (decide (s.f1 = t.f1) && decide (s.f0 ≤ t.f0))
def yxQ (s : S87) : Prop := (-1000 ≤ s.f0 ∧ s.f0 ≤ 1000) ∧ (-1000 ≤ s.f1 ∧ s.f1 ≤ 1000)
instance (s : S87) : Decidable (yxQ s) := by unfold yxQ; infer_instance
def yxNe (s t : S87) : Prop := ¬ (s.f0 = t.f0 ∧ s.f1 = t.f1)
instance (s t : S87) : Decidable (yxNe s t) := by unfold yxNe; infer_instance
def yxCmp (s t : S87) : Int := if s.f1 = t.f1 then wrap64 (s.f0 - t.f0) else wrap64 (s.f1 - t.f1)
def yxIns (s : S87) : List S87 → List S87
 | [] => [s]
 | t :: r => if yxLe s t then s :: t :: r else t :: yxIns s r
def yxSort (l : List S87) : List S87 := l.foldr yxIns []
theorem yxIns_perm (s : S87) (l : List S87) : (yxIns s l).Perm (s :: l) := by
 induction l with
 | nil => exact List.Perm.refl _
 | cons t r ih =>
  unfold yxIns
  split
  · exact List.Perm.refl _
  · exact (List.Perm.cons t ih).trans (List.Perm.swap s t r)
theorem yxSort_perm (l : List S87) : (yxSort l).Perm l := by
 induction l with
 | nil => exact List.Perm.refl _
 | cons t r ih => exact (yxIns_perm t (yxSort r)).trans (List.Perm.cons t ih)
theorem yxLe_trans {a b c : S87} (h1 : yxLe a b = true) (h2 : yxLe b c = true) : yxLe a c = true := by unfold yxLe at *; simp at *; omega
theorem yxLe_total {a b : S87} (h : ¬ yxLe a b = true) : yxLe b a = true := by unfold yxLe at *; simp at *; omega
theorem yxIns_sorted (s : S87) (l : List S87) (h : l.Pairwise (fun x y => yxLe x y = true)) : (yxIns s l).Pairwise (fun x y => yxLe x y = true) := by
 induction l with
 | nil => exact List.pairwise_singleton _ _
 | cons t r ih =>
  rw [List.pairwise_cons] at h
  unfold yxIns
  split
  ·
   rename_i hs
   refine List.pairwise_cons.2 ⟨fun y hy => ?_, List.pairwise_cons.2 h⟩
   rcases List.mem_cons.1 hy with rfl | hy
   · exact hs
   · exact yxLe_trans hs (h.1 y hy)
  ·
   rename_i hs
   refine List.pairwise_cons.2 ⟨fun y hy => ?_, ih h.2⟩
   rcases List.mem_cons.1 ((yxIns_perm s r).mem_iff.1 hy) with rfl | hy
   · exact yxLe_total hs
   · exact h.1 y hy
theorem yxSort_sorted (l : List S87) : (yxSort l).Pairwise (fun x y => yxLe x y = true) := by
 induction l with
 | nil => exact List.Pairwise.nil
 | cons t r ih => exact yxIns_sorted t _ ih
theorem yxCmp_lt (s t : S87) (hs : yxQ s) (ht : yxQ t) : decide (yxCmp s t < 0) = (decide (s.f1 < t.f1) || (decide (s.f1 = t.f1) && decide (s.f0 < t.f0))) := by
 obtain ⟨⟨a, b⟩, c, d⟩ := hs
 obtain ⟨⟨a', b'⟩, c', d'⟩ := ht
 unfold yxCmp
 by_cases h : s.f1 = t.f1
 ·
  rw [if_pos h]
  have e : wrap64 (s.f0 - t.f0) = s.f0 - t.f0 := by unfold wrap64; omega
  rw [e, Bool.eq_iff_iff]; simp; omega
 ·
  rw [if_neg h]
  have e : wrap64 (s.f1 - t.f1) = s.f1 - t.f1 := by unfold wrap64; omega
  rw [e, Bool.eq_iff_iff]; simp; omega
theorem yx_swo : Go.Sort.SWO (Go.Proofs.ltOf fun x y : {s // yxQ s} => yxCmp x.1 y.1) where
 irrefl x := by unfold Go.Proofs.ltOf; rw [yxCmp_lt _ _ x.2 x.2]; simp
 trans x y z h1 h2 := by
  unfold Go.Proofs.ltOf at *
  rw [yxCmp_lt _ _ x.2 y.2] at h1; rw [yxCmp_lt _ _ y.2 z.2] at h2; rw [yxCmp_lt _ _ x.2 z.2]
  simp at *; omega
 ntrans x y z h1 h2 := by
  unfold Go.Proofs.ltOf at *
  rw [yxCmp_lt _ _ x.2 y.2] at h1; rw [yxCmp_lt _ _ y.2 z.2] at h2; rw [yxCmp_lt _ _ x.2 z.2]
  simp at *; omega
theorem yxSort_one (l l' : List S87) (hQ : ∀ s ∈ l, yxQ s) (hN : l.Pairwise yxNe) (hp : l'.Perm l) (hs : l'.Pairwise (fun x y => 0 ≤ yxCmp y x)) : l' = yxSort l := by
 have hQ' : ∀ s ∈ l', yxQ s := fun s h => hQ s (hp.mem_iff.mp h)
 have hN' : l'.Pairwise yxNe := hp.symm.pairwise hN (fun {x y} h e => h ⟨e.1.symm, e.2.symm⟩)
 refine List.Perm.eq_of_pairwise (le := fun x y => yxLe x y = true ∧ (yxLe y x = true → x = y)) ?_ ?_ ?_ (hp.trans (yxSort_perm l).symm)
 ·
  intro a b _ _ h1 h2
  exact h1.2 h2.1
 ·
  refine (hs.and hN').imp_of_mem ?_
  intro a b ha hb hab
  obtain ⟨h1, h2⟩ := hab
  have h3 := yxCmp_lt b a (hQ' b hb) (hQ' a ha)
  rw [decide_eq_false (by omega)] at h3
  unfold yxNe at h2
  unfold yxLe
  simp at h3 ⊢
  constructor
  · omega
  · intro h4; exact absurd ⟨by omega, by omega⟩ h2
 ·
  have hNs : (yxSort l).Pairwise yxNe := (yxSort_perm l).symm.pairwise hN (fun {x y} h e => h ⟨e.1.symm, e.2.symm⟩)
  refine ((yxSort_sorted l).and hNs).imp ?_
  intro a b hab
  obtain ⟨h1, h2⟩ := hab
  refine ⟨h1, fun h4 => ?_⟩
  unfold yxNe at h2
  unfold yxLe at h1 h4
  simp at h1 h4
  exact absurd ⟨by omega, by omega⟩ h2
set_option maxHeartbeats 8000000 in
set_option maxRecDepth 100000 in
theorem changed_cmp (x y : S87) (W : World) : Calls Try.prog 83 #[.agg (encl_Square x).toArray, .agg (encl_Square y).toArray] W fun e w' => e = .returned (.int .i64 (yxCmp x y)) ∧ ∃ q os', w' = Go.Sort.grow (W.drewN q) os' := by
 simp only [encl_Square, yxCmp]
 have hu := Try.underlying87
 by_cases h : x.f1 = y.f1
 ·
  rw [if_pos h, h]
  go_enter Try.func83, Try.ntmps83
  go_wp2
  go_ret
  exact ⟨rfl, 0, _, by rw [Go.Sort.alloc_eq_grow, Go.Sort.alloc_eq_grow, Go.Sort.grow_grow]; rfl⟩
 ·
  rw [if_neg h]
  have hd : decide (x.f1 = y.f1) = false := decide_eq_false h
  go_enter Try.func83, Try.ntmps83
  go_wp2
  go_ret
  exact ⟨rfl, 0, _, by rw [Go.Sort.alloc_eq_grow, Go.Sort.alloc_eq_grow, Go.Sort.grow_grow]; rfl⟩
set_option maxHeartbeats 16000000 in
set_option maxRecDepth 100000 in
theorem changed_ (chg : S87 → S87) (g : Nat) (lb : Array Value) (eg : ∀ args w, (callFunc g args).run Try.prog w = .ok (.enter g args) w) (a b nw nh : Int) (ad : Addr) (n c : Nat) (l : List S87) (w : World) (hr : Kd.C k87 w (some ad) n l) (hc : n ≤ c) (h0 : 0 < n) (h1000 : n ≤ 1000)
  (hcl : ∀ W s, Below w.heap.size w W → Calls Try.prog g (#[enc_Square s] ++ lb) W fun e w' => e = .returned (enc_Square (chg s)) ∧ Below W.heap.size W w') (hQ : ∀ s ∈ l, yxQ (chg s)) (hN : (l.map chg).Pairwise yxNe) :
  Calls Try.prog 120 #[.agg #[.int .i64 a, .int .i64 b, .slice (some ad) n c], .int .i64 nw, .int .i64 nh, .func (.func g) #[] lb] w fun e w' => ∃ v : Value, e = .returned (.agg #[.int .i64 nw, .int .i64 nh, v]) ∧ Kd.R k87 87 w' w.heap.size (fun _ => True) v (yxSort (l.map chg)) ∧ Below w.heap.size w w' := by
 have hl : l.length = n := hr.1
 have hu1 := Try.underlying31
 have hu2 := Try.underlying87
 have HR := As_ hr
 have HL := As_ hl
 have HCL := As_ hcl
 have HQ := As_ hQ
 have HN := As_ hN
 have HEG := As_ eg
 have HB := As_ (Below.refl w.heap.size w)
 clear hr hl hcl hQ hN eg
 go_enter Try.func120, Try.ntmps120
 go_wp2
 go_loopg [18] n (fun gg s18 wr => ∃ (i : Int) (v : Value), 0 ≤ i ∧ i ≤ n ∧ Aside0 (n - i.toNat ≤ gg) ∧ s18 = .int .i64 i ∧ Aside0 (Below w.heap.size w wr) ∧ Aside0 (wr.heap[w.heap.size + 1]? = some (.cells #[.int .i64 0, .int .i64 0, .slice none 0 0] 31 (0, 0))) ∧ Aside0 (wr.heap[w.heap.size + 1 + 1]? = some (.cells #[.int .i64 nw, .int .i64 nh, v] 31 (0, 0))) ∧ Aside0 (Kd.R k87 87 wr (w.heap.size + 3) (fun _ => True) v ((l.take i.toNat).map chg)))
 case atStart => exact ⟨0, .slice none 0 0, by omega, by omega, ⟨by omega⟩, rfl, ⟨below_alloc (below_alloc (below_alloc HB.out _) _) _⟩, ⟨alloc3_b _ _ _ _⟩, ⟨alloc3_c _ _ _ _⟩, ⟨by simpa using Kd.R_nil _ _ _ _ _⟩⟩
 case round =>
  obtain ⟨i, v, hi0, hin, hg, rfl, BW, BR, BK, HO⟩ := hrel
  have hwr : w.heap.size + 1 + 1 < wr.heap.size := blk_lt BK.out
  by_cases hlt : i < n
  case neg =>
   have e : i = n := by omega
   subst e
   have HO1 := As_ (show Kd.R k87 87 wr (w.heap.size + 3) (fun _ => True) v (l.map chg) by have := HO.out; rwa [Int.toNat_natCast, List.take_of_length_le (by have := HL.out; omega)] at this)
   clear HO
   obtain ⟨gb, cb, rfl, hg1, hg2, hg3⟩ := Kd.R_form HO1.out (by rw [List.length_map, HL.out]; exact h0)
   have HG := As_ hg1
   obtain ⟨z, hz⟩ : ∃ z, z ∈ l := by
    have hp : 0 < l.length := by rw [HL.out]; exact h0
    exact ⟨l[0], List.getElem_mem hp⟩
   have eg2 : ∀ args w, (callFunc 83 args).run Try.prog w = .ok (.enter 83 args) w := enters_of Try.func83 (by kernel_rfl) rfl
   have hso := fun w1 hr1 => sort_Square yxQ (chg z) (HQ.out z hz) yxCmp yx_swo 83 eg2 (fun x y W => changed_cmp x y W) gb (l.map chg).length cb (l.map chg) (fun s hs => by obtain ⟨t, ht, rfl⟩ := List.mem_map.1 hs; exact HQ.out t ht) (by rw [List.length_map, HL.out]; omega) w1 (w.heap.size + 3) (fun _ => True) hr1
   have HS := As_ hso
   have hp2 : wr.cell? ⟨w.heap.size + 1 + 1, 2, none⟩ = some (.slice (some ⟨gb, 0, none⟩) (l.map chg).length cb) := (blk_cell BK.out 2).trans rfl
   clear hso hz eg2 hg1 hg2 hg3
   generalize (l.map chg).length = m at *
   go_wp2_with (go_at_call 65; refine (HS.out _ HO1.out).mono ?_; rintro e w2 ⟨rfl, l', hp, hs, ho2, hb2⟩; have hq0 : w2.cell? ⟨w.heap.size + 1 + 1, 0, none⟩ = some (.int .i64 nw) := (blk_cell ((hb2.block _ (by omega)).trans BK.out) 0).trans rfl; have hq1 : w2.cell? ⟨w.heap.size + 1 + 1, 1, none⟩ = some (.int .i64 nh) := (blk_cell ((hb2.block _ (by omega)).trans BK.out) 1).trans rfl; have hq2 : w2.cell? ⟨w.heap.size + 1 + 1, 2, none⟩ = some (.slice (some ⟨gb, 0, none⟩) m cb) := (blk_cell ((hb2.block _ (by omega)).trans BK.out) 2).trans rfl; have br2 := (hb2.block _ (by omega)).trans BR.out; have hr0 : w2.cell? ⟨w.heap.size + 1, 0, none⟩ = some (.int .i64 0) := (blk_cell br2 0).trans rfl; have hr1 : w2.cell? ⟨w.heap.size + 1, 1, none⟩ = some (.int .i64 0) := (blk_cell br2 1).trans rfl; have hr2 : w2.cell? ⟨w.heap.size + 1, 2, none⟩ = some (.slice none 0 0) := (blk_cell br2 2).trans rfl; have hf0 := blk_frozen br2 0; have hf1 := blk_frozen br2 1; have hf2 := blk_frozen br2 2; have BR2 := As_ br2; have BS2 := As_ (hb2); have HO2 := As_ ho2; have HP := As_ hp; have HSO := As_ hs; clear hb2 ho2 hp hs br2)
   refine bodyPost_ret (results_cell_row rfl _ _ (w.heap.size + 1) 31 #[.int .i64 nw, .int .i64 nh, .slice (some ⟨gb, 0, none⟩) m cb] (0, 0) _ ?hp ?hq hu1 rfl (by kernel_rfl)) rfl ?_
   case hp => rfl
   case hq => exact blk_put (blk_put (blk_put BR2.out 0 _ rfl) 1 _ rfl) 2 _ rfl
   obtain rfl := yxSort_one (l.map chg) l' (fun s hs => by obtain ⟨t, ht, rfl⟩ := List.mem_map.1 hs; exact HQ.out t ht) HN.out HP.out HSO.out
   exact ⟨_, rfl, Kd.R_lower (R_past (R_past (R_past HO2.out (by simp) _) (by simp) _) (by simp) _) (by omega), below_set (below_set (below_set (below_weaken BW.out (by omega) BS2.out) (by omega)) (by omega)) (by omega)⟩
  obtain ⟨ad', ea, hs0, hs1, hs2⟩ := at_T87 HR.out i hi0 hlt
  cases ea
  replace hs0 := (BW.out.cell (World.block_lt_of_cell? w _ hs0)).trans hs0
  replace hs1 := (BW.out.cell (World.block_lt_of_cell? w _ hs1)).trans hs1
  replace hs2 := (BW.out.cell (World.block_lt_of_cell? w _ hs2)).trans hs2
  have hp2 : wr.cell? ⟨w.heap.size + 1 + 1, 2, none⟩ = some v := (blk_cell BK.out 2).trans rfl
  have hne : ¬ w.heap.size + 1 + 1 = wr.heap.size := by omega
  obtain ⟨s, hs⟩ : ∃ s, s = rd_T87 l i := ⟨_, rfl⟩
  rw [← hs] at hs0 hs1 hs2
  have HS := As_ hs
  clear hs
  obtain ⟨acc, hacc⟩ : ∃ acc, acc = (l.take i.toNat).map chg := ⟨_, rfl⟩
  rw [← hacc] at HO
  have hlen : (acc.length + 1) * 24 ≤ 140737488355328 := by rw [hacc, List.length_map, List.length_take]; omega
  have HACC := As_ hacc
  have HLEN := As_ hlen
  clear hacc hlen
  have F0 := As_ (show (wr.alloc (.cells #[.int .i64 s.f0, .int .i64 s.f1, .int .i64 s.f2] 87)).cell? ⟨w.heap.size + 1 + 1, 2, none⟩ = some v from ((Below.refl wr.heap.size wr).alloc (Nat.le_refl _) _).cell (World.block_lt_of_cell? _ _ hp2) |>.trans hp2)
  have F1 := As_ (show (wr.alloc (.cells #[.int .i64 s.f0, .int .i64 s.f1, .int .i64 s.f2] 87)).cell? ⟨wr.heap.size, 0, none⟩ = some (.int .i64 s.f0) from (blk_cell (heap_alloc_new wr _) 0).trans rfl)
  have F2 := As_ (show (wr.alloc (.cells #[.int .i64 s.f0, .int .i64 s.f1, .int .i64 s.f2] 87)).cell? ⟨wr.heap.size, 1, none⟩ = some (.int .i64 s.f1) from (blk_cell (heap_alloc_new wr _) 1).trans rfl)
  have F3 := As_ (show (wr.alloc (.cells #[.int .i64 s.f0, .int .i64 s.f1, .int .i64 s.f2] 87)).cell? ⟨wr.heap.size, 2, none⟩ = some (.int .i64 s.f2) from (blk_cell (heap_alloc_new wr _) 2).trans rfl)
  have F4 := As_ (show (wr.alloc (.cells #[.int .i64 s.f0, .int .i64 s.f1, .int .i64 s.f2] 87)).heap[w.heap.size + 1]? = some (.cells #[.int .i64 0, .int .i64 0, .slice none 0 0] 31 (0, 0)) from blk_b ((Below.refl wr.heap.size wr).alloc (Nat.le_refl _) _) BR.out)
  have F5 := As_ (show (wr.alloc (.cells #[.int .i64 s.f0, .int .i64 s.f1, .int .i64 s.f2] 87)).heap[w.heap.size + 1 + 1]? = some (.cells #[.int .i64 nw, .int .i64 nh, v] 31 (0, 0)) from blk_b ((Below.refl wr.heap.size wr).alloc (Nat.le_refl _) _) BK.out)
  have F6 := As_ (show Kd.R k87 87 (wr.alloc (.cells #[.int .i64 s.f0, .int .i64 s.f1, .int .i64 s.f2] 87)) (w.heap.size + 3) (fun _ => True) v acc from Kd.R_below HO.out (below_alloc (Below.refl _ _) _))
  have F7 := As_ (show Below w.heap.size w (wr.alloc (.cells #[.int .i64 s.f0, .int .i64 s.f1, .int .i64 s.f2] 87)) from BW.out.alloc BW.out.size _)
  go_wp2
  refine start_ (n := 9) (S := fun w' => w'.cell? ⟨w.heap.size + 1 + 1, 2, none⟩ = some v ∧ w'.cell? ⟨wr.heap.size, 0, none⟩ = some (.int .i64 s.f0) ∧ w'.cell? ⟨wr.heap.size, 1, none⟩ = some (.int .i64 s.f1) ∧ w'.cell? ⟨wr.heap.size, 2, none⟩ = some (.int .i64 s.f2) ∧ w'.heap[w.heap.size + 1]? = some (.cells #[.int .i64 0, .int .i64 0, .slice none 0 0] 31 (0, 0)) ∧ w'.heap[w.heap.size + 1 + 1]? = some (.cells #[.int .i64 nw, .int .i64 nh, v] 31 (0, 0)) ∧ Kd.R k87 87 w' (w.heap.size + 3) (fun _ => True) v acc ∧ Below w.heap.size w w') (ds := [6, 8]) #[false, false, false, false, false, false, false, false, false] (by kernel_rfl) rfl rfl ⟨(show _ from F0.out), (show _ from F1.out), (show _ from F2.out), (show _ from F3.out), (show _ from F4.out), (show _ from F5.out), (by (with_reducible repeat (first | apply Kd.R_drewN | apply Kd.R_drew)); exact F6.out), (by repeat (first | exact F7.out | apply bn_ | apply bd_))⟩ (fun hHeld => ?_)
  refine pu_ (v := ?_) (a' := ?_) 0 (some 22) #[true, false, false, false, false, false, false, false, false] rfl rfl (by kernel_rfl) (fun _ _ _ h => h) (.inl ⟨by rfl, ?_⟩) ?_ ?_; rotate_left
  · intro w'; go_simp; with_reducible rfl
  rotate_left
  · simp only [Act.put, sib_, sc0_, sc1_, i64_w, i32_w]; rfl
  refine pu_ (v := ?_) (a' := ?_) 2 (some 24) #[true, false, true, false, false, false, false, false, false] rfl rfl (by kernel_rfl) (fun _ _ _ h => h) (.inl ⟨by rfl, ?_⟩) ?_ ?_; rotate_left
  · intro w'; go_simp; with_reducible rfl
  rotate_left
  · simp only [Act.put, sib_, sc0_, sc1_, i64_w, i32_w]; rfl
  refine take_ (i := 1) (N := some 23) (v := ?_) (a' := ?_) #[true, true, true, false, false, false, false, false, false] rfl rfl (by kernel_rfl) (fun _ _ _ h => h) (Or.inl ⟨by rfl, ?_⟩) hHeld ?_ ?_; rotate_left
  ·
   rintro w' ⟨s0, s1, s2, s3, s4, s5, s6, s7⟩
   go_simp
   with_reducible rfl
  rotate_left
  · simp only [Act.put, sib_, sc0_, sc1_, i64_w, i32_w]; rfl
  refine take_ (i := 3) (N := some 25) (v := ?_) (a' := ?_) #[true, true, true, true, false, false, false, false, false] rfl rfl (by kernel_rfl) (fun _ _ _ h => h) (Or.inl ⟨by rfl, ?_⟩) hHeld ?_ ?_; rotate_left
  ·
   rintro w' ⟨s0, s1, s2, s3, s4, s5, s6, s7⟩
   go_simp
   with_reducible rfl
  rotate_left
  · simp only [Act.put, sib_, sc0_, sc1_, i64_w, i32_w]; rfl
  refine one_ (i := 4) (N := some 26) #[true, true, true, true, true, false, false, false, false] rfl rfl (by kernel_rfl) (by decide) (fun K hK => ?_)
  refine goesv_ (.tmp 24) g lb HEG.out (#[enc_Square s] ++ lb) (by rfl) rfl rfl rfl (by simp only [List.map_toArray, List.map_cons, List.map_nil]; rfl) ?_
  refine (HCL.out _ s hHeld.2.2.2.2.2.2.2).mono ?_
  rintro e w3 ⟨rfl, hb⟩
  refine ⟨.agg #[.int .i64 (chg s).f0, .int .i64 (chg s).f1, .int .i64 (chg s).f2], rfl, ?_⟩
  refine hK.out _ _ ⟨(hb.cell (World.block_lt_of_cell? _ _ hHeld.1)).trans hHeld.1, (hb.cell (World.block_lt_of_cell? _ _ hHeld.2.1)).trans hHeld.2.1, (hb.cell (World.block_lt_of_cell? _ _ hHeld.2.2.1)).trans hHeld.2.2.1, (hb.cell (World.block_lt_of_cell? _ _ hHeld.2.2.2.1)).trans hHeld.2.2.2.1, blk_b hb hHeld.2.2.2.2.1, blk_b hb hHeld.2.2.2.2.2.1, Kd.R_below hHeld.2.2.2.2.2.2.1 hb, below_step hHeld.2.2.2.2.2.2.2 hb⟩ (fun hHeld => ?_); clear hK K
  refine norm_ (a' := ?_) ?_ ?_; rotate_left
  ·
   show Act.put _ (some 26) _ = _
   simp only [Act.put, sib_, sc0_, sc1_, i64_w, i32_w]
   rfl
  refine one_ (i := 5) (N := some 27) #[true, true, true, true, true, true, false, false, false] rfl rfl (by kernel_rfl) (by decide) (fun K hK => ?_)
  have HV := As_ hHeld
  refine value_ (w1 := ?_) (v := ?_) (by rfl) rfl ?_ ?_
  rotate_left 2
  ·
   go_simp
   constructor
   · rfl
   · rfl
  refine hK.out _ _ ⟨((below_alloc (Below.refl _ _) _).cell (World.block_lt_of_cell? _ _ hHeld.1)).trans hHeld.1, ((below_alloc (Below.refl _ _) _).cell (World.block_lt_of_cell? _ _ hHeld.2.1)).trans hHeld.2.1, ((below_alloc (Below.refl _ _) _).cell (World.block_lt_of_cell? _ _ hHeld.2.2.1)).trans hHeld.2.2.1, ((below_alloc (Below.refl _ _) _).cell (World.block_lt_of_cell? _ _ hHeld.2.2.2.1)).trans hHeld.2.2.2.1, blk_alloc hHeld.2.2.2.2.1 _, blk_alloc hHeld.2.2.2.2.2.1 _, Kd.R_below hHeld.2.2.2.2.2.2.1 (below_alloc (Below.refl _ _) _), below_alloc hHeld.2.2.2.2.2.2.2 _⟩ (fun hHeld => ?_); clear hK K
  refine norm_ (a' := ?_) ?_ ?_; rotate_left
  ·
   show Act.put _ (some 27) _ = _
   simp only [Act.put, sib_, sc0_, sc1_, i64_w, i32_w]
   rfl
  refine last_ (i := 6) (N := some 28) #[true, true, true, true, true, true, true, false, false] rfl rfl (by kernel_rfl) (by decide) (fun K hK => ?_)
  refine Kd.R_append_step k87 (w0 := _) (w.heap.size + 3) (by rfl) (.tmp 23) (.tmp 27) 29 87 _ 24 rfl Try.underlying29 info87 rfl (by decide) (by decide) v acc (chg s) _ (fun _ => True) (fun _ => False) rfl rfl (k87_mkM _ _ _ _) (fun _ h => h.elim) (fun _ _ => trivial) HV.out.2.2.2.2.2.2.1 (Below.refl _ _) (blk_lt HV.out.2.2.2.2.2.1) HLEN.out ?_
  intro v1 w3 ho hb _ _
  obtain ⟨gq, cq, rfl, hq1, hq2, hq3⟩ := Kd.R_form ho (by simp)
  have bk3 := (hb.block (w.heap.size + 1 + 1) (by omega)).trans HV.out.2.2.2.2.2.1
  have br3 := (hb.block (w.heap.size + 1) (by omega)).trans HV.out.2.2.2.2.1
  have hk2 : w3.cell? ⟨w.heap.size + 1 + 1, 2, none⟩ = some v := (blk_cell bk3 2).trans rfl
  have hk3 := blk_frozen bk3 2
  have BK3 := As_ bk3
  have BR3 := As_ br3
  have HO3 := As_ ho
  have HG3 := As_ hq1
  have HB3 := As_ (below_weaken HV.out.2.2.2.2.2.2.2 (by omega) hb)
  clear bk3 br3 ho hb hq1 hq2 hq3
  refine hK.out _ _ ?_; clear hK K
  refine norm_ (a' := ?_) ?_ ?_; rotate_left
  ·
   show Act.put _ (some 28) _ = _
   simp only [Act.put, sib_, sc0_, sc1_, i64_w, i32_w]
   rfl
  refine pu_ (v := ?_) (a' := ?_) 7 (some 29) #[true, true, true, true, true, true, true, true, false] rfl rfl (by kernel_rfl) (fun _ _ _ h => h) (.inl ⟨by rfl, ?_⟩) ?_ ?_; rotate_left
  · intro w'; go_simp; with_reducible rfl
  rotate_left
  · simp only [Act.put, sib_, sc0_, sc1_, i64_w, i32_w]; rfl
  refine last_ (i := 8) (N := none) #[true, true, true, true, true, true, true, true, true] rfl rfl (by kernel_rfl) (by decide) (fun K hK => ?_)
  refine skip_ (w1 := ?_) (by rfl) rfl ?_ ?_; rotate_left
  ·
   go_simp
   rfl
  refine hK.out _ _ ?_; clear hK K
  refine done_ (by kernel_rfl) ?_; clear hHeld
  go_wp2
  go_roundg (n - (i + 1).toNat)
  case measure => have := hg.out; omega
  case rel =>
   refine ⟨i + 1, _, by omega, by omega, ⟨by omega⟩, by go_num, ⟨below_set HB3.out (by omega)⟩, ⟨blk_far BR3.out (by simp) _⟩, ⟨blk_put BK3.out 2 _ rfl⟩, ⟨?_⟩⟩
   have e : (l.take (i + 1).toNat).map chg = acc ++ [chg s] := by
    have hlt2 : i.toNat < l.length := by rw [HL.out]; omega
    rw [HACC.out, show (i + 1).toNat = i.toNat + 1 by omega, List.take_succ_eq_append_getElem hlt2, List.map_append, HS.out]
    simp [rd_T87, List.getD_eq_getElem?_getD, hlt2]
   rw [e]
   have h4 := HO3.out
   rw [show (acc ++ [chg s]).length = acc.length + 1 by simp] at h4
   exact R_past h4 (p := ⟨w.heap.size + 1 + 1, 2, none⟩) (by show w.heap.size + 1 + 1 < w.heap.size + 3; omega) _

/-! ### impl_Cut_turned: function 99 (by hand) -/
/- x 120 121 -/
def impl_Cut_turned.f (a0_0 : Int) (a0_1 : Int) (l0_2 : List S87) : Option (Int × Int × List S87) :=
 if 0 < l0_2.length then if l0_2.length ≤ 1000 then if ∀ s ∈ l0_2, yxQ (turnS a0_1 s) then if (l0_2.map (turnS a0_1)).Pairwise yxNe then some (a0_1, a0_0, yxSort (l0_2.map (turnS a0_1))) else none else none else none else none
theorem impl_Cut_turned.drop {p : Prop} [Decidable p] {α : Type} {x : Option α} {r : α} (h : (if p then x else none) = some r) : p ∧ x = some r := by
 by_cases hp : p
 · rw [if_pos hp] at h; exact ⟨hp, h⟩
 · rw [if_neg hp] at h; cases h
set_option maxHeartbeats 8000000 in
set_option maxRecDepth 100000 in
theorem impl_Cut_turned.calls (a0_0 : Int) (a0_1 : Int) (A0_2 : Option Addr) (c0_2 : Nat) (l0_2 : List (S87)) (r1 : Int) (r2 : Int) (r3 : List (S87)) (w : World) (hr0_2 : Kd.C k87 w A0_2 l0_2.length l0_2) (hc0_2 : l0_2.length ≤ c0_2) (h : impl_Cut_turned.f a0_0 a0_1 l0_2 = some (r1, r2, r3)) :
  Calls Try.prog 99 #[.agg #[.int .i64 a0_0, .int .i64 a0_1, .slice A0_2 l0_2.length c0_2]] w fun e w' => ∃ v2_ : Value, e = .returned (.agg #[.int .i64 r1, .int .i64 r2, v2_]) ∧ Kd.R k87 87 w' w.heap.size (fun _ => True) v2_ r3 ∧ Below w.heap.size w w' := by
 unfold impl_Cut_turned.f at h
 obtain ⟨h1, h⟩ := impl_Cut_turned.drop h
 obtain ⟨h2, h⟩ := impl_Cut_turned.drop h
 obtain ⟨h3, h⟩ := impl_Cut_turned.drop h
 obtain ⟨h4, h⟩ := impl_Cut_turned.drop h
 simp only [Option.some.injEq, Prod.mk.injEq] at h
 obtain ⟨rfl, rfl, rfl⟩ := h
 obtain ⟨ad, rfl, _⟩ := hr0_2.2.2 h1
 have hu1 := Try.underlying31
 have eg : ∀ args w, (callFunc 121 args).run Try.prog w = .ok (.enter 121 args) w := enters_of Try.func121 (by kernel_rfl) rfl
 have hch := fun w1 (hb : Below w.heap.size w w1) (hg : ∃ v, w1.heap[w.heap.size]? = some (.cells #[.int .i64 a0_0, .int .i64 a0_1, v] 31 (0, 0))) => changed_ (turnS a0_1) 121 #[.pointer (some ⟨w.heap.size, 0, none⟩)] eg a0_0 a0_1 a0_1 a0_0 ad l0_2.length c0_2 l0_2 w1 (Kd.C_below hr0_2 hb) hc0_2 h1 h2
  (fun W s hW => by obtain ⟨v, hv⟩ := hg; exact turned_cl a0_0 a0_1 v s w.heap.size W.heap.size W ((hW.block _ (blk_lt hv)).trans hv) (Nat.le_refl _)) h3 h4
 have hne : 0 < (yxSort (l0_2.map (turnS a0_1))).length := by rw [(yxSort_perm _).length_eq, List.length_map]; exact h1
 have HC := As_ hch
 have HNE := As_ hne
 have HB := As_ (Below.refl w.heap.size w)
 clear hch hr0_2 h1 h2 h3 h4 hne eg
 generalize yxSort (l0_2.map (turnS a0_1)) = q at *
 have hb2 : ∀ A B : Obj, ((w.alloc A).alloc B).heap[w.heap.size + 1]? = some B := fun A B => by show ((w.heap.push A).push B)[w.heap.size + 1]? = some B; rw [Array.getElem?_push, if_pos (by simp)]
 have hb1 : ∀ A B : Obj, ((w.alloc A).alloc B).heap[w.heap.size]? = some A := fun A B => by show ((w.heap.push A).push B)[w.heap.size]? = some A; rw [Array.getElem?_push, if_neg (by simp), Array.getElem?_push, if_pos rfl]
 have HB2 := As_ hb2
 have HB1 := As_ hb1
 clear hb1 hb2
 go_enter Try.func99, Try.ntmps99
 go_wp2_with (go_at_call 120; refine (HC.out _ (below_alloc (below_alloc HB.out _) _) ⟨_, HB1.out _ _⟩).mono ?_; rintro e w3 ⟨v, rfl, ho, hb⟩; obtain ⟨gq, cq, rfl, hq1, hq2, hq3⟩ := Kd.R_form ho HNE.out; have bk := (hb.block (w.heap.size + 1) (by simp)).trans (HB2.out _ _); have hk0 : w3.cell? ⟨w.heap.size + 1, 0, none⟩ = some (.int .i64 0) := (blk_cell bk 0).trans rfl; have hk1 : w3.cell? ⟨w.heap.size + 1, 1, none⟩ = some (.int .i64 0) := (blk_cell bk 1).trans rfl; have hk2 : w3.cell? ⟨w.heap.size + 1, 2, none⟩ = some (.slice none 0 0) := (blk_cell bk 2).trans rfl; have hf0 := blk_frozen bk 0; have hf1 := blk_frozen bk 1; have hf2 := blk_frozen bk 2; have BK := As_ bk; have HO := As_ ho; have HB3 := As_ (below_step (below_alloc (below_alloc HB.out _) _) hb); clear bk ho hb hq1 hq2 hq3)
 refine bodyPost_ret (results_cell_row rfl _ _ (w.heap.size + 1) 31 #[.int .i64 a0_1, .int .i64 a0_0, .slice (some ⟨gq, 0, none⟩) q.length cq] (0, 0) _ ?hp ?hq hu1 rfl (by kernel_rfl)) rfl ?_
 case hp => rfl
 case hq => exact blk_put (blk_put (blk_put BK.out 0 _ rfl) 1 _ rfl) 2 _ rfl
 exact ⟨_, rfl, Kd.R_lower (R_past (R_past (R_past HO.out (by simp) _) (by simp) _) (by simp) _) (by simp; omega), below_set (below_set (below_set HB3.out (by omega)) (by omega)) (by omega)⟩

end Go.Proofs.Ytipiaiolhhnnhaa.PFnExactMakePuzzle
