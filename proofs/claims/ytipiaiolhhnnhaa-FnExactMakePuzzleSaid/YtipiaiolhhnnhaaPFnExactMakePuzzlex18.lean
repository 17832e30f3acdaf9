-- Written by a program of this session (wip/tools/pg.py) out of the translation.
import Derived.Test.YtipiaiolhhnnhaaPFnExactMakePuzzlex0
namespace Go.Proofs.Ytipiaiolhhnnhaa.PFnExactMakePuzzle
open Go.RowKit Go.Proofs.YtipiaiolhhnnhaaW.PrintWords Go.Proofs.YtipiaiolhhnnhaaW.PrintLast Go.Proofs.YtipiaiolhhnnhaaW.PrintMore Go.Proofs.YtipiaiolhhnnhaaH
attribute [local go_sem] max2_int min2_int max_two min_two max_three min_three max_four min_four   -- for this text's walks alone
set_option linter.unusedVariables false
set_option linter.unusedSimpArgs false

/-! ### impl_Square_65: function 65 (by hand) -/
def srt_Square_ren : Go.Shelf.Ren := ⟨fun | 6 => 65 | 15 => 88 | 14 => 87 | 28 => 117 | 29 => 118 | 20 => 109 | 21 => 110 | 22 => 111 | 23 => 112 | 24 => 113 | 25 => 114 | 26 => 115 | 27 => 116 | 46 => 129 | 47 => 130 | 48 => 131 | 49 => 132 | 50 => 133 | 57 => 135 | n => n, fun | 22 => 29 | 24 => 87 | 25 => 92 | 3 => 3 | 39 => 107 | 0 => 0 | 53 => 127 | 55 => 129 | 4 => 4 | 46 => 121 | 45 => 120 | 50 => 57 | 5 => 5 | 9 => 9 | 66 => 138 | 70 => 142 | 76 => 147 | 77 => 148 | n => n, fun n => n⟩
set_option maxRecDepth 100000 in
theorem srt_Square_lays : Go.Proofs.SlLaysF0.n6 Try.prog srt_Square_ren where
 mixed := by kernel_rfl
 f6 := ⟨"slices.SortFunc[[]loop.example/g01296/impl.Square,loop.example/g01296/impl.Square]", by decide, Try.func65.trans (congrArg some (by kernel_rfl))⟩
 f14 := ⟨"slices.pdqsortCmpFunc[loop.example/g01296/impl.Square]", by decide, Try.func87.trans (congrArg some (by kernel_rfl))⟩
 f15 := Try.func88.trans (congrArg some (by kernel_rfl))
 f20 := ⟨"slices.insertionSortCmpFunc[loop.example/g01296/impl.Square]", by decide, Try.func109.trans (congrArg some (by kernel_rfl))⟩
 f21 := ⟨"slices.heapSortCmpFunc[loop.example/g01296/impl.Square]", by decide, Try.func110.trans (congrArg some (by kernel_rfl))⟩
 f22 := ⟨"slices.breakPatternsCmpFunc[loop.example/g01296/impl.Square]", by decide, Try.func111.trans (congrArg some (by kernel_rfl))⟩
 f23 := ⟨"slices.choosePivotCmpFunc[loop.example/g01296/impl.Square]", by decide, Try.func112.trans (congrArg some (by kernel_rfl))⟩
 f24 := ⟨"slices.reverseRangeCmpFunc[loop.example/g01296/impl.Square]", by decide, Try.func113.trans (congrArg some (by kernel_rfl))⟩
 f25 := ⟨"slices.partialInsertionSortCmpFunc[loop.example/g01296/impl.Square]", by decide, Try.func114.trans (congrArg some (by kernel_rfl))⟩
 f26 := ⟨"slices.partitionEqualCmpFunc[loop.example/g01296/impl.Square]", by decide, Try.func115.trans (congrArg some (by kernel_rfl))⟩
 f27 := ⟨"slices.partitionCmpFunc[loop.example/g01296/impl.Square]", by decide, Try.func116.trans (congrArg some (by kernel_rfl))⟩
 f28 := Try.func117.trans (congrArg some (by kernel_rfl))
 f29 := Try.func118.trans (congrArg some (by kernel_rfl))
 f46 := ⟨"slices.siftDownCmpFunc[loop.example/g01296/impl.Square]", by decide, Try.func129.trans (congrArg some (by kernel_rfl))⟩
 f47 := Try.func130.trans (congrArg some (by kernel_rfl))
 f48 := Try.func131.trans (congrArg some (by kernel_rfl))
 f49 := ⟨"slices.medianAdjacentCmpFunc[loop.example/g01296/impl.Square]", by decide, Try.func132.trans (congrArg some (by kernel_rfl))⟩
 f50 := ⟨"slices.medianCmpFunc[loop.example/g01296/impl.Square]", by decide, Try.func133.trans (congrArg some (by kernel_rfl))⟩
 f57 := ⟨"slices.order2CmpFunc[loop.example/g01296/impl.Square]", by decide, Try.func135.trans (congrArg some (by kernel_rfl))⟩
 t0 := Try.underlying0
 a0 := Try.isAgg0
 z0 := Try.sizeOf0
 v0 := Try.zeroValue0
 t3 := Try.underlying3
 a3 := Try.isAgg3
 z3 := Try.sizeOf3
 v3 := Try.zeroValue3
 t4 := Try.underlying4
 a4 := Try.isAgg4
 z4 := Try.sizeOf4
 v4 := Try.zeroValue4
 t5 := Try.underlying5
 a5 := Try.isAgg5
 z5 := Try.sizeOf5
 v5 := Try.zeroValue5
 t9 := Try.underlying9
 a9 := Try.isAgg9
 z9 := Try.sizeOf9
 v9 := Try.zeroValue9
 t22 := Try.underlying29
 a22 := Try.isAgg29
 z22 := Try.sizeOf29
 v22 := Try.zeroValue29
 t25 := Try.underlying92
 a25 := Try.isAgg92
 z25 := Try.sizeOf92
 v25 := Try.zeroValue92
 t39 := Try.underlying107
 a39 := Try.isAgg107
 z39 := Try.sizeOf107
 v39 := Try.zeroValue107
 t45 := Try.underlying120
 a45 := Try.isAgg120
 z45 := Try.sizeOf120
 v45 := Try.zeroValue120
 t46 := Try.underlying121
 a46 := Try.isAgg121
 z46 := Try.sizeOf121
 v46 := Try.zeroValue121
 t50 := Try.underlying57
 a50 := Try.isAgg57
 z50 := Try.sizeOf57
 v50 := Try.zeroValue57
 t53 := Try.underlying127
 a53 := Try.isAgg127
 z53 := Try.sizeOf127
 v53 := Try.zeroValue127
 t55 := Try.underlying129
 a55 := Try.isAgg129
 z55 := Try.sizeOf129
 v55 := Try.zeroValue129
 t66 := Try.underlying138
 a66 := Try.isAgg138
 z66 := Try.sizeOf138
 v66 := Try.zeroValue138
 t70 := Try.underlying142
 a70 := Try.isAgg142
 z70 := Try.sizeOf142
 v70 := Try.zeroValue142
 t76 := Try.underlying147
 a76 := Try.isAgg147
 z76 := Try.sizeOf147
 v76 := Try.zeroValue147
 t77 := Try.underlying148
 a77 := Try.isAgg148
 z77 := Try.sizeOf148
 v77 := Try.zeroValue148
def encl_Square (x : S87) : List Value := [.int .i64 x.f0, .int .i64 x.f1, .int .i64 x.f2]
/-- slices.SortFunc: a sorted permutation, in the row's own place. Q: what holds of the elements; on those that have it the order is one. -/
theorem sort_Square (Q : S87 → Prop) (z : S87) (hz : Q z) (cf : S87 → S87 → Int) (hO : Go.Sort.SWO (Go.Proofs.ltOf fun x y : {s // Q s} => cf x.1 y.1)) (g : Nat) (eg : ∀ args w, (callFunc g args).run Try.prog w = .ok (.enter g args) w)
  (hcl : ∀ x y W, Calls Try.prog g #[.agg (encl_Square x).toArray, .agg (encl_Square y).toArray] W fun e w' => e = .returned (.int .i64 (cf x y)) ∧ ∃ q os', w' = Go.Sort.grow (W.drewN q) os')
  (b n c : Nat) (l : List S87) (hQ : ∀ s ∈ l, Q s) (hbig : l.length < 4611686018427387904) (w : World) (base : Nat) (ok : Nat → Prop)
  (hr : Kd.R k87 87 w base ok (.slice (some ⟨b, 0, none⟩) n c) l) :
  Calls Try.prog 65 #[.slice (some ⟨b, 0, none⟩) n c, .func (.func g) #[] #[]] w fun e w' => e = .returned (.tuple #[]) ∧ ∃ l' : List S87, l'.Perm l ∧ l'.Pairwise (fun x y => 0 ≤ cf y x) ∧ Kd.R k87 87 w' base ok (.slice (some ⟨b, 0, none⟩) n c) l' ∧ Below base w w' := by
 obtain ⟨cur, hh, hcs, hn, hnc, hcm, hbb⟩ := R_block hr
 have hlt : b < w.heap.size := blk_lt hh
 let α := {s // Q s}
 letI : Inhabited α := ⟨⟨z, hz⟩⟩
 let d : Array α := (l.attach.map fun s => (⟨s.1, hQ s.1 s.2⟩ : α)).toArray
 have hd : d.toList.map Subtype.val = l := by simp [d, List.map_map, Function.comp_def]
 have hds : d.size = l.length := by simp [d]
 have hl3 : ∀ x, (encl_Square x).length = k87.sz := fun _ => rfl
 have hm1 : ∀ {w : World} {base : Nat} {ok : Nat → Prop} {x : S87} {cs : List Value}, k87.M w base ok x cs → cs = encl_Square x := fun h => k87_openM h
 have hm2 : ∀ (w : World) (base : Nat) (ok : Nat → Prop) (x : S87), k87.M w base ok x (encl_Square x) := fun w base ok x => k87_mkM w base ok x
 have hr' : Kd.R k87 87 w base ok (.slice (some ⟨b, 0, none⟩) n c) (d.toList.map Subtype.val) := by rw [hd]; exact hr
 have hH := Go.Proofs.YtipiaiolhhnnhaaS.R_holds hm1 hl3 Subtype.val d hr'
 have hcon := Go.Proofs.AnyQ.slices_SortFunc srt_Square_lays k87.sz Try.isAgg87 Try.sizeOf87 (fun x : α => encl_Square x.1) (fun x => rfl) (fun x v hv => by simp [encl_Square] at hv; rcases hv with rfl | rfl | rfl <;> rfl) (fun x y : α => cf x.1 y.1) hO g #[] b 0 c d w eg
  (fun m os dk _ x y => hcl x.1 y.1 _) hH hlt (by omega)
 rw [hds, ← hn] at hcon
 refine Calls.mono hcon ?_
 rintro e w' ⟨rfl, d', m, os, hp, hs, rfl⟩
 have hsz : d'.size = d.size := hp.1
 have hperm : d'.toList.Perm d.toList := by
  have h3 := hp.2.2
  rw [hn, ← hds] at h3
  have e1 : d'.extract 0 d.size = d' := by rw [← hsz]; simp
  have e2 : d.extract 0 d.size = d := by simp
  rwa [e1, e2] at h3
 refine ⟨rfl, d'.toList.map Subtype.val, ?_, ?_, ?_, ?_⟩
 · have := hperm.map Subtype.val; rwa [hd] at this
 ·
  rw [List.pairwise_map, List.pairwise_iff_getElem]
  intro i j hi hj hij
  have hj' : j < d'.size := by simpa using hj
  have := hs i j (Nat.zero_le _) hij (by omega)
  rw [getElem!_pos d' i (by omega), getElem!_pos d' j hj'] at this
  simp only [Go.Proofs.ltOf, decide_eq_false_iff_not] at this
  simp only [Array.getElem_toList]
  exact Int.not_lt.mp this
 · exact Go.Proofs.YtipiaiolhhnnhaaS.R_sorted hm2 hl3 Subtype.val d' hr (by rw [hsz, hds]) m os
 · exact Go.Proofs.YtipiaiolhhnnhaaS.below_sorted (Below.refl _ _) hbb (by omega)

end Go.Proofs.Ytipiaiolhhnnhaa.PFnExactMakePuzzle
