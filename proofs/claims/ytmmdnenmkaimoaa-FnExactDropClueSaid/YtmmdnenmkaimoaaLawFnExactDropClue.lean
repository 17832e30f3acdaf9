/- Proved: the law FnExactDropClue answers true for every input that its statement lets in; no condition. -/
import Derived.Test.YtmmdnenmkaimoaaRows
import Derived.Test.YtmmdnenmkaimoaaPFnExactDropCluex9
import Derived.Test.YtmmdnenmkaimoaaPureFnExactDropClue
import Derived.Test.YtmmdnenmkaimoaaR
import Derived.WalkKit
import Derived.ProofKit
import Derived.OpenShut
import Derived.ShutString
import Derived.ChangeOld
import Derived.Below
import Derived.SizedLaws
namespace Go.Proofs.Ytmmdnenmkaimoaa.fnExactDropClue
open Go.ChangeShapes Go.WideShapes Go.ChangeAt Go.RowKit Go.Joins Go.Proofs.YtmmdnenmkaimoaaH Go.Proofs.YtmmdnenmkaimoaaW.PrintWords
open Go.ChangeMaps (open_string shut_string)
set_option linter.unusedVariables false
theorem own : ownKnob Try.prog.godebug = none := by kernel_rfl
theorem laidOut : laidOutB Try.prog = true := by kernel_rfl
set_option maxRecDepth 100000 in
set_option maxHeartbeats 4000000 in
theorem lifted (os : Os) (started : os.Started) (H : Type) (enc : TypeId × Value → H) :
    ReturnsInHanded {} Try.checked os 4 .any (Rows.fnExactDropClueSpec.pre6 enc Try.prog Try.f4 Rows.fnExactDropClueRow.domain false) (Rows.fnExactDropClueSpec.post enc Try.prog Try.f4 false true false false) := by
  refine returnsInHanded_of_change_sized (C := Try.checked) own started (by kernel_rfl) Try.func4
    (ChangeSpec.witness6 (enc := enc) (C := Try.checked) false ⟨#[], #[.agg #[.int .i64 0, .int .i64 0, .slice none 0 0], .int .i64 0], []⟩ 8 (by kernel_rfl) (by kernel_rfl) (by kernel_rfl) (by kernel_rfl)) ?_
  intro W base args ds gs before hval0 hW hcnd hsz0 _
  have hsz : (DataW.weightsEach Try.prog (Try.f4.params.toList ++ Rows.fnExactDropClueSpec.plain.varTypes Try.prog) (ds ++ gs)).all (· ≤ reachBytes) = true := hsz0
  have hval : ∀ (j : Nat) t v, Try.f4.params[j]? = some t → args[j]? = some v → Value.okWide Try.prog W .any base t v := hval0
  have hW' := hW
  obtain ⟨p, q, hA0, hV, rfl, hfz, hnd⟩ := hW
  have hA : DataW.TrodAll enc Try.prog W 0 (fun _ => true) true Try.f4.params.toList args.toList ds p := hA0
  rw [Try.params4] at hA hval hsz
  obtain ⟨v0, vs0, d0, ds0, p0, q0, hargs, rfl, rfl, h0, r0⟩ := trodAll_cons hA
  obtain ⟨v1, vs1, d1, ds1, p1, q1, rfl, rfl, rfl, h1, r1⟩ := trodAll_cons r0
  obtain ⟨rfl, rfl, rfl⟩ := trodAll_nil r1
  obtain rfl : args = #[v0, v1] := by cases args; simp_all
  obtain ⟨rfl, rfl⟩ := trodVars_none hV
  have k0 := h0
  have lt0 : ∀ x ∈ p0, x.block < W.heap.size := by obtain ⟨m, hm⟩ := k0; exact DataW.trod_lt m _ _ _ hm
  obtain ⟨u0_0, u0_1, u0_2, y0_0, y0_1, y0_2, fu0, rfl, rfl, rfl, g0_0, g0_1, g0_2⟩ := open_agg3 Try.underlying24 (by kernel_rfl) (by kernel_rfl) (hval 0 24 v0 rfl rfl) h0
  obtain ⟨a0_0, hu0_0, _, w0_0⟩ := DataW.trod_int Try.underlying3 g0_0
  obtain rfl : u0_0 = .int .i64 a0_0 := by simpa using hu0_0
  obtain ⟨a0_1, hu0_1, _, w0_1⟩ := DataW.trod_int Try.underlying3 g0_1
  obtain rfl : u0_1 = .int .i64 a0_1 := by simpa using hu0_1
  obtain ⟨A0, n0, c0, xs0, hu0_2, hle0, hmx0, hln0, hwf0, hcl0⟩ := open_rows3 Try.underlying22 Try.underlying26 (by kernel_rfl) (by kernel_rfl) Try.underlying3 Try.underlying3 Try.underlying3 g0_2
  obtain rfl : u0_2 = .slice A0 n0 c0 := by simpa using hu0_2
  obtain ⟨l0, hl0⟩ : ∃ l : List PFnExactDropClue.S26, l = xs0.map (fun y => (⟨y.1, y.2.1, y.2.2⟩ : PFnExactDropClue.S26)) := ⟨_, rfl⟩
  obtain rfl : n0 = l0.length := by rw [hl0]; simp [hln0]
  unfold maxLen at hmx0
  have hC0 : Kd.C PFnExactDropClue.k26 W A0 l0.length l0 := by
    refine ⟨rfl, by omega, fun hp => ?_⟩
    obtain ⟨a, ea, hc⟩ := hcl0 hp
    refine ⟨a, ea, fun j y hj => ?_⟩
    rw [hl0, List.getElem?_map] at hj
    obtain ⟨x, hx, rfl⟩ := Option.map_eq_some_iff.1 hj
    obtain ⟨c0, c1, c2⟩ := hc j x hx
    refine ⟨[.int .i64 x.1, .int .i64 x.2.1, .int .i64 x.2.2], rfl, PFnExactDropClue.k26_mk W _, fun q u hq => ?_⟩
    match q, hq with
    | 0, hq => simp at hq; subst hq; exact c0
    | 1, hq => simp at hq; subst hq; exact c1
    | 2, hq => simp at hq; subst hq; exact c2
    | q + 3, hq => simp at hq
  obtain ⟨a1, rfl, rfl, rfl, w1⟩ := open_int Try.underlying3 (hval 1 3 v1 rfl rfl) h1
  clear hA0 hval0 hsz0 hsz
  obtain ⟨k, hk⟩ := PFnExactDropClue.FnExactDropClue.pure a0_0 a0_1 l0 a1 w0_0 w0_1 (by omega) (by rw [hl0]; intro y hy; obtain ⟨x, hx, rfl⟩ := List.mem_map.1 hy; exact hwf0 x hx) w1
  refine (PFnExactDropClue.laws_FnExactDropClue.calls k a0_0 a0_1 _ _ l0 a1 true W hC0 hle0 hk).mono fun e W' hh => ?_
  obtain ⟨rfl, bel⟩ := hh
  exact ⟨_, rfl, _, _, _, [], _, [], hW', trodAll_mk1 (shut_bool Try.underlying4 _), (trodAll_cons_mk (Below.trod laidOut (by kernel_rfl) (of_decide_eq_true (by kernel_rfl)) k0 bel lt0) (trodAll_cons_mk (shut_int Try.underlying3 w1) trodAll_mk0)), rfl, bel.frame _, fun h => by cases h⟩
theorem over : Rows.fnExactDropClueRow.holds Try.pinned (OpenSpec.ofChange Rows.fnExactDropClueSpec) :=
  OpenClaim.holds_of_wide 4 Try.f4 rfl rfl rfl rfl rfl rfl rfl ⟨rfl, rfl, rfl, rfl, rfl⟩ rfl rfl rfl rfl rfl (by kernel_rfl) Try.func4 (by kernel_rfl)
    (of_decide_eq_true (by kernel_rfl)) (by unfold Func.isWrapper; first | (rw [if_pos (by decide +kernel)]; kernel_rfl) | (rw [if_neg (by decide +kernel)]; exact ⟨rfl, rfl⟩))
    (fun os started H enc _ => lifted os started H enc)
theorem proved : Rows.FnExactDropClueSaid := over
end Go.Proofs.Ytmmdnenmkaimoaa.fnExactDropClue
namespace Go.Proofs.Ytmmdnenmkaimoaa
/-- The row, under a short name, for the claim. -/
theorem fnExactDropClue_holds : Rows.FnExactDropClueSaid := fnExactDropClue.proved
end Go.Proofs.Ytmmdnenmkaimoaa
