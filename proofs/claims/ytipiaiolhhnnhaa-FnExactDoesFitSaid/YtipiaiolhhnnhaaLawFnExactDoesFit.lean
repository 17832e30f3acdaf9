/- Proved: the law FnExactDoesFit answers true for every input that its statement lets in; no condition. -/
import Derived.Test.YtipiaiolhhnnhaaRows
import Derived.Test.YtipiaiolhhnnhaaPFnExactDoesFitx22
import Derived.Test.YtipiaiolhhnnhaaPureFnExactDoesFit
import Derived.Test.YtipiaiolhhnnhaaR
import Derived.WalkKit
import Derived.ProofKit
import Derived.OpenShut
import Derived.ShutString
import Derived.ChangeOld
import Derived.Below
import Derived.SizedLaws
namespace Go.Proofs.Ytipiaiolhhnnhaa.fnExactDoesFit
open Go.ChangeShapes Go.WideShapes Go.ChangeAt Go.RowKit Go.Joins Go.Proofs.YtipiaiolhhnnhaaH Go.Proofs.YtipiaiolhhnnhaaW.PrintWords
open Go.ChangeMaps (open_string shut_string)
set_option linter.unusedVariables false
theorem own : ownKnob Try.prog.godebug = none := by kernel_rfl
theorem laidOut : laidOutB Try.prog = true := by kernel_rfl
set_option maxRecDepth 100000 in
set_option maxHeartbeats 4000000 in
theorem lifted (os : Os) (started : os.Started) (H : Type) (enc : TypeId × Value → H) :
    ReturnsInHanded {} Try.checked os 4 .any (Rows.fnExactDoesFitSpec.pre6 enc Try.prog Try.f4 Rows.fnExactDoesFitRow.domain false) (Rows.fnExactDoesFitSpec.post enc Try.prog Try.f4 false true false false) := by
  refine returnsInHanded_of_change_sized (C := Try.checked) own started (by kernel_rfl) Try.func4
    (ChangeSpec.witness6 (enc := enc) (C := Try.checked) false ⟨#[], #[.agg #[.int .i64 0, .int .i64 0, .int .i64 0], .agg #[.int .i64 0, .int .i64 0, .slice none 0 0]], []⟩ 8 (by kernel_rfl) (by kernel_rfl) (by kernel_rfl) (by kernel_rfl)) ?_
  intro W base args ds gs before hval0 hW hcnd hsz0 _
  have hsz : (DataW.weightsEach Try.prog (Try.f4.params.toList ++ Rows.fnExactDoesFitSpec.plain.varTypes Try.prog) (ds ++ gs)).all (· ≤ reachBytes) = true := hsz0
  have hval : ∀ (j : Nat) t v, Try.f4.params[j]? = some t → args[j]? = some v → Value.okWide Try.prog W .any base t v := hval0
  have hW' := hW
  obtain ⟨p, q, hA0, hV, rfl, hfz, hnd⟩ := hW
  have hA : DataW.TrodAll enc Try.prog W 0 (fun _ => true) true Try.f4.params.toList args.toList ds p := hA0
  rw [Try.params4] at hA hval hsz
  obtain ⟨v0, vs0, d0, ds0, p0, q0, hargs, rfl, rfl, h0, r0⟩ := trodAll_cons hA
  obtain ⟨v1, vs1, d1, ds1, p1, q1, rfl, rfl, rfl, h1, r1⟩ := trodAll_cons r0
  obtain ⟨rfl, rfl, rfl⟩ := trodAll_nil r1
  obtain rfl : args = #[v0, v1] := by cases args; simp_all
  obtain ⟨rfl, rfl⟩ := trodVars_none hV
  have k0 := h0
  have lt0 : ∀ x ∈ p0, x.block < W.heap.size := by obtain ⟨m, hm⟩ := k0; exact DataW.trod_lt m _ _ _ hm
  obtain ⟨u0_0, u0_1, u0_2, y0_0, y0_1, y0_2, fu0, rfl, rfl, rfl, g0_0, g0_1, g0_2⟩ := open_agg3 Try.underlying39 (by kernel_rfl) (by kernel_rfl) (hval 0 39 v0 rfl rfl) h0
  obtain ⟨a0_0, hu0_0, _, w0_0⟩ := DataW.trod_int Try.underlying3 g0_0
  obtain rfl : u0_0 = .int .i64 a0_0 := by simpa using hu0_0
  obtain ⟨a0_1, hu0_1, _, w0_1⟩ := DataW.trod_int Try.underlying3 g0_1
  obtain rfl : u0_1 = .int .i64 a0_1 := by simpa using hu0_1
  obtain ⟨a0_2, hu0_2, _, w0_2⟩ := DataW.trod_int Try.underlying3 g0_2
  obtain rfl : u0_2 = .int .i64 a0_2 := by simpa using hu0_2
  have k1 := h1
  have lt1 : ∀ x ∈ p1, x.block < W.heap.size := by obtain ⟨m, hm⟩ := k1; exact DataW.trod_lt m _ _ _ hm
  obtain ⟨u1_0, u1_1, u1_2, y1_0, y1_1, y1_2, fu1, rfl, rfl, rfl, g1_0, g1_1, g1_2⟩ := open_agg3 Try.underlying24 (by kernel_rfl) (by kernel_rfl) (hval 1 24 v1 rfl rfl) h1
  obtain ⟨a1_0, hu1_0, _, w1_0⟩ := DataW.trod_int Try.underlying3 g1_0
  obtain rfl : u1_0 = .int .i64 a1_0 := by simpa using hu1_0
  obtain ⟨a1_1, hu1_1, _, w1_1⟩ := DataW.trod_int Try.underlying3 g1_1
  obtain rfl : u1_1 = .int .i64 a1_1 := by simpa using hu1_1
  obtain ⟨A1, n1, c1, xs1, hu1_2, hle1, hmx1, hln1, hwf1, hcl1⟩ := open_rows3 Try.underlying22 Try.underlying89 (by kernel_rfl) (by kernel_rfl) Try.underlying3 Try.underlying3 Try.underlying3 g1_2
  obtain rfl : u1_2 = .slice A1 n1 c1 := by simpa using hu1_2
  obtain ⟨l1, hl1⟩ : ∃ l : List PFnExactDoesFit.S89, l = xs1.map (fun y => (⟨y.1, y.2.1, y.2.2⟩ : PFnExactDoesFit.S89)) := ⟨_, rfl⟩
  obtain rfl : n1 = l1.length := by rw [hl1]; simp [hln1]
  unfold maxLen at hmx1
  have hC1 : Kd.C PFnExactDoesFit.k89 W A1 l1.length l1 := by
    refine ⟨rfl, by omega, fun hp => ?_⟩
    obtain ⟨a, ea, hc⟩ := hcl1 hp
    refine ⟨a, ea, fun j y hj => ?_⟩
    rw [hl1, List.getElem?_map] at hj
    obtain ⟨x, hx, rfl⟩ := Option.map_eq_some_iff.1 hj
    obtain ⟨c0, c1, c2⟩ := hc j x hx
    refine ⟨[.int .i64 x.1, .int .i64 x.2.1, .int .i64 x.2.2], rfl, PFnExactDoesFit.k89_mk W _, fun q u hq => ?_⟩
    match q, hq with
    | 0, hq => simp at hq; subst hq; exact c0
    | 1, hq => simp at hq; subst hq; exact c1
    | 2, hq => simp at hq; subst hq; exact c2
    | q + 3, hq => simp at hq
  clear hA0 hval0 hsz0 hsz
  obtain ⟨k, hk⟩ := PFnExactDoesFit.FnExactDoesFit.pure a0_0 a0_1 a0_2 a1_0 a1_1 l1 w0_0 w0_1 w0_2 w1_0 w1_1 (by omega) (by rw [hl1]; intro y hy; obtain ⟨x, hx, rfl⟩ := List.mem_map.1 hy; exact hwf1 x hx)
  refine (PFnExactDoesFit.laws_FnExactDoesFit.calls k a0_0 a0_1 a0_2 a1_0 a1_1 _ _ l1 true W hC1 hle1 hk).mono fun e W' hh => ?_
  obtain ⟨rfl, bel⟩ := hh
  exact ⟨_, rfl, _, _, _, [], _, [], hW', trodAll_mk1 (shut_bool Try.underlying4 _), (trodAll_cons_mk (Below.trod laidOut (by kernel_rfl) (of_decide_eq_true (by kernel_rfl)) k0 bel lt0) (trodAll_cons_mk (Below.trod laidOut (by kernel_rfl) (of_decide_eq_true (by kernel_rfl)) k1 bel lt1) trodAll_mk0)), rfl, bel.frame _, fun h => by cases h⟩
theorem over : Rows.fnExactDoesFitRow.holds Try.pinned (OpenSpec.ofChange Rows.fnExactDoesFitSpec) :=
  OpenClaim.holds_of_wide 4 Try.f4 rfl rfl rfl rfl rfl rfl rfl ⟨rfl, rfl, rfl, rfl, rfl⟩ rfl rfl rfl rfl rfl (by kernel_rfl) Try.func4 (by kernel_rfl)
    (of_decide_eq_true (by kernel_rfl)) (by unfold Func.isWrapper; first | (rw [if_pos (by decide +kernel)]; kernel_rfl) | (rw [if_neg (by decide +kernel)]; exact ⟨rfl, rfl⟩))
    (fun os started H enc _ => lifted os started H enc)
theorem proved : Rows.FnExactDoesFitSaid := over
end Go.Proofs.Ytipiaiolhhnnhaa.fnExactDoesFit
namespace Go.Proofs.Ytipiaiolhhnnhaa
/-- The row, under a short name, for the claim. -/
theorem fnExactDoesFit_holds : Rows.FnExactDoesFitSaid := fnExactDoesFit.proved
end Go.Proofs.Ytipiaiolhhnnhaa
