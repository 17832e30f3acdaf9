/- Proved: the law FnExactMakePuzzle answers true for every input that its statement lets in; no condition. -/
import Derived.Test.YtipiaiolhhnnhaaRows
import Derived.Test.YtipiaiolhhnnhaaPFnExactMakePuzzlex27
import Derived.Test.YtipiaiolhhnnhaaPureFnExactMakePuzzle
import Derived.Test.YtipiaiolhhnnhaaR
import Derived.WalkKit
import Derived.ProofKit
import Derived.OpenShut
import Derived.ShutString
import Derived.ChangeOld
import Derived.Below
import Derived.SizedLaws
namespace Go.Proofs.Ytipiaiolhhnnhaa.fnExactMakePuzzle
open Go.ChangeShapes Go.WideShapes Go.ChangeAt Go.RowKit Go.Joins Go.Proofs.YtipiaiolhhnnhaaH Go.Proofs.YtipiaiolhhnnhaaW.PrintWords
open Go.ChangeMaps (open_string shut_string)
set_option linter.unusedVariables false
theorem own : ownKnob Try.prog.godebug = none := by kernel_rfl
theorem laidOut : laidOutB Try.prog = true := by kernel_rfl
set_option maxRecDepth 100000 in
set_option maxHeartbeats 4000000 in
theorem lifted (os : Os) (started : os.Started) (H : Type) (enc : TypeId × Value → H) :
    ReturnsInHanded {} Try.checked os 5 .any (Rows.fnExactMakePuzzleSpec.pre6 enc Try.prog Try.f5 Rows.fnExactMakePuzzleRow.domain false) (Rows.fnExactMakePuzzleSpec.post enc Try.prog Try.f5 false true false false) := by
  refine returnsInHanded_of_change_sized (C := Try.checked) own started (by kernel_rfl) Try.func5
    (ChangeSpec.witness6 (enc := enc) (C := Try.checked) false ⟨#[], #[.agg #[.int .i64 0, .int .i64 0, .slice none 0 0], .int .i64 0, .int .i64 0], []⟩ 8 (by kernel_rfl) (by kernel_rfl) (by kernel_rfl) (by kernel_rfl)) ?_
  intro W base args ds gs before hval0 hW hcnd hsz0 _
  have hsz : (DataW.weightsEach Try.prog (Try.f5.params.toList ++ Rows.fnExactMakePuzzleSpec.plain.varTypes Try.prog) (ds ++ gs)).all (· ≤ reachBytes) = true := hsz0
  have hval : ∀ (j : Nat) t v, Try.f5.params[j]? = some t → args[j]? = some v → Value.okWide Try.prog W .any base t v := hval0
  have hW' := hW
  obtain ⟨p, q, hA0, hV, rfl, hfz, hnd⟩ := hW
  have hA : DataW.TrodAll enc Try.prog W 0 (fun _ => true) true Try.f5.params.toList args.toList ds p := hA0
  rw [Try.params5] at hA hval hsz
  obtain ⟨v0, vs0, d0, ds0, p0, q0, hargs, rfl, rfl, h0, r0⟩ := trodAll_cons hA
  obtain ⟨v1, vs1, d1, ds1, p1, q1, rfl, rfl, rfl, h1, r1⟩ := trodAll_cons r0
  obtain ⟨v2, vs2, d2, ds2, p2, q2, rfl, rfl, rfl, h2, r2⟩ := trodAll_cons r1
  obtain ⟨rfl, rfl, rfl⟩ := trodAll_nil r2
  obtain rfl : args = #[v0, v1, v2] := by cases args; simp_all
  obtain ⟨rfl, rfl⟩ := trodVars_none hV
  have k0 := h0
  have lt0 : ∀ x ∈ p0, x.block < W.heap.size := by obtain ⟨m, hm⟩ := k0; exact DataW.trod_lt m _ _ _ hm
  obtain ⟨u0_0, u0_1, u0_2, y0_0, y0_1, y0_2, fu0, rfl, rfl, rfl, g0_0, g0_1, g0_2⟩ := open_agg3 Try.underlying24 (by kernel_rfl) (by kernel_rfl) (hval 0 24 v0 rfl rfl) h0
  obtain ⟨a0_0, hu0_0, _, w0_0⟩ := DataW.trod_int Try.underlying3 g0_0
  obtain rfl : u0_0 = .int .i64 a0_0 := by simpa using hu0_0
  obtain ⟨a0_1, hu0_1, _, w0_1⟩ := DataW.trod_int Try.underlying3 g0_1
  obtain rfl : u0_1 = .int .i64 a0_1 := by simpa using hu0_1
  obtain ⟨A0, n0, c0, xs0, hu0_2, hle0, hmx0, hln0, hwf0, hcl0⟩ := open_rows3 Try.underlying22 Try.underlying89 (by kernel_rfl) (by kernel_rfl) Try.underlying3 Try.underlying3 Try.underlying3 g0_2
  obtain rfl : u0_2 = .slice A0 n0 c0 := by simpa using hu0_2
  obtain ⟨l0, hl0⟩ : ∃ l : List PFnExactMakePuzzle.S89, l = xs0.map (fun y => (⟨y.1, y.2.1, y.2.2⟩ : PFnExactMakePuzzle.S89)) := ⟨_, rfl⟩
  obtain rfl : n0 = l0.length := by rw [hl0]; simp [hln0]
  unfold maxLen at hmx0
  have hC0 : Kd.C PFnExactMakePuzzle.k89 W A0 l0.length l0 := by
    refine ⟨rfl, by omega, fun hp => ?_⟩
    obtain ⟨a, ea, hc⟩ := hcl0 hp
    refine ⟨a, ea, fun j y hj => ?_⟩
    rw [hl0, List.getElem?_map] at hj
    obtain ⟨x, hx, rfl⟩ := Option.map_eq_some_iff.1 hj
    obtain ⟨c0, c1, c2⟩ := hc j x hx
    refine ⟨[.int .i64 x.1, .int .i64 x.2.1, .int .i64 x.2.2], rfl, PFnExactMakePuzzle.k89_mk W _, fun q u hq => ?_⟩
    match q, hq with
    | 0, hq => simp at hq; subst hq; exact c0
    | 1, hq => simp at hq; subst hq; exact c1
    | 2, hq => simp at hq; subst hq; exact c2
    | q + 3, hq => simp at hq
  obtain ⟨a1, rfl, rfl, rfl, w1⟩ := open_int Try.underlying3 (hval 1 3 v1 rfl rfl) h1
  obtain ⟨a2, rfl, rfl, rfl, w2⟩ := open_int Try.underlying3 (hval 2 3 v2 rfl rfl) h2
  clear hA0 hval0 hsz0 hsz
  obtain ⟨k, hk⟩ := PFnExactMakePuzzle.FnExactMakePuzzle.pure a0_0 a0_1 l0 a1 a2 w0_0 w0_1 (by omega) (by rw [hl0]; intro y hy; obtain ⟨x, hx, rfl⟩ := List.mem_map.1 hy; exact hwf0 x hx) w1 w2
  refine (PFnExactMakePuzzle.laws_FnExactMakePuzzle.calls k a0_0 a0_1 _ _ l0 a1 a2 true W hC0 hle0 hk).mono fun e W' hh => ?_
  obtain ⟨rfl, bel⟩ := hh
  exact ⟨_, rfl, _, _, _, [], _, [], hW', trodAll_mk1 (shut_bool Try.underlying4 _), (trodAll_cons_mk (Below.trod laidOut (by kernel_rfl) (of_decide_eq_true (by kernel_rfl)) k0 bel lt0) (trodAll_cons_mk (shut_int Try.underlying3 w1) (trodAll_cons_mk (shut_int Try.underlying3 w2) trodAll_mk0))), rfl, bel.frame _, fun h => by cases h⟩
theorem over : Rows.fnExactMakePuzzleRow.holds Try.pinned (OpenSpec.ofChange Rows.fnExactMakePuzzleSpec) :=
  OpenClaim.holds_of_wide 5 Try.f5 rfl rfl rfl rfl rfl rfl rfl ⟨rfl, rfl, rfl, rfl, rfl⟩ rfl rfl rfl rfl rfl (by kernel_rfl) Try.func5 (by kernel_rfl)
    (of_decide_eq_true (by kernel_rfl)) (by unfold Func.isWrapper; first | (rw [if_pos (by decide +kernel)]; kernel_rfl) | (rw [if_neg (by decide +kernel)]; exact ⟨rfl, rfl⟩))
    (fun os started H enc _ => lifted os started H enc)
theorem proved : Rows.FnExactMakePuzzleSaid := over
end Go.Proofs.Ytipiaiolhhnnhaa.fnExactMakePuzzle
namespace Go.Proofs.Ytipiaiolhhnnhaa
/-- The row, under a short name, for the claim. -/
theorem fnExactMakePuzzle_holds : Rows.FnExactMakePuzzleSaid := fnExactMakePuzzle.proved
end Go.Proofs.Ytipiaiolhhnnhaa
