-- Written by a program of this session (wip/tools/pg.py) out of the translation.
import Derived.Test.YtipiaiolhhnnhaaPFnExactMakePuzzlex0
namespace Go.Proofs.Ytipiaiolhhnnhaa.PFnExactMakePuzzle
open Go.RowKit Go.Proofs.YtipiaiolhhnnhaaW.PrintWords Go.Proofs.YtipiaiolhhnnhaaW.PrintLast Go.Proofs.YtipiaiolhhnnhaaW.PrintMore Go.Proofs.YtipiaiolhhnnhaaH
attribute [local go_sem] max2_int min2_int max_two min_two max_three min_three max_four min_four   -- for this text's walks alone
set_option linter.unusedVariables false
set_option linter.unusedSimpArgs false

/-! ### impl_Square_97: function 97 (by hand) -/
def enc_Square (x : S87) : Value := .agg #[.int .i64 x.f0, .int .i64 x.f1, .int .i64 x.f2]
set_option maxHeartbeats 8000000 in
theorem indexFunc_Square (p : S87 → Bool) (g : Nat) (lb : Array Value) (eg : ∀ args w, (callFunc g args).run Try.prog w = .ok (.enter g args) w) (A : Option Addr) (n c : Nat) (l : List S87) (w : World)
  (hr : Kd.C k87 w A n l) (hbig : n ≤ 9223372036854775807) (hp : PB Try.prog g lb enc_Square p w) :
  Calls Try.prog 97 #[.slice A n c, .func (.func g) #[] lb] w fun e w' => e = .returned (.int .i64 (idxOf p l)) ∧ Below w.heap.size w w' := by
 have hl : l.length = n := hr.1
 have hu28 := Try.underlying29
 have hu34 := Try.underlying87
 have HR := As_ hr
 have HP := As_ hp
 have hL := As_ hl
 clear hr hp hl
 go_enter Try.func97, Try.ntmps97
 go_wp2
 go_loopg [5, 8] n (fun gg _ s8 wr => ∃ i : Int, 0 ≤ i ∧ i ≤ n ∧ Aside0 (n - i.toNat ≤ gg) ∧ s8 = .int .i64 i ∧ Aside0 (Below w.heap.size w wr) ∧ Aside0 (∀ j : Int, 0 ≤ j → j < i → p (rd_T87 l j) = false))
 case atStart => exact ⟨0, by omega, by omega, ⟨by omega⟩, rfl, ⟨Below.refl _ w⟩, ⟨fun j h0 hj => absurd hj (by omega)⟩⟩
 case round =>
  obtain ⟨i, hi0, hin, hg, rfl, BW, AA⟩ := hrel
  by_cases hlt : i < n
  ·
   obtain ⟨ad, ea, h0, h1, h2⟩ := at_T87 HR.out i hi0 hlt
   cases ea
   replace h0 := (BW.out.cell (World.block_lt_of_cell? w _ h0)).trans h0
   replace h1 := (BW.out.cell (World.block_lt_of_cell? w _ h1)).trans h1
   replace h2 := (BW.out.cell (World.block_lt_of_cell? w _ h2)).trans h2
   have hcall := HP.out wr (rd_T87 l i) BW.out
   simp only [enc_Square] at hcall
   generalize hy : rd_T87 l i = y at h0 h1 h2 hcall
   have B := As_ hy
   clear hy
   cases hq : p y with
   | true =>
    rw [hq] at hcall
    have HQ := As_ hq
    clear hq
    go_wp2_with (go_at_fn g; refine hcall.mono ?_; rintro e w' ⟨rfl, hb'⟩)
    go_ret
    refine ⟨ret_i64 (idxOf_hit p z87 l i hi0 (by have := hL.out; omega) (by have := B.out; rw [← HQ.out, ← this]; rfl) AA.out), hb'⟩
   | false =>
    rw [hq] at hcall
    have HQ := As_ hq
    clear hq
    go_wp2_with (go_at_fn g; refine hcall.mono ?_; rintro e w' ⟨rfl, hb'⟩)
    go_roundg (n - (i + 1).toNat)
    case measure => have := hg.out; omega
    case rel =>
     refine ⟨i + 1, by omega, by omega, ⟨by omega⟩, by go_num, ⟨hb'⟩, ⟨fun j hj0 hj => ?_⟩⟩
     by_cases e : j = i
     ·
      subst e
      rw [B.out]; exact HQ.out
     · exact AA.out j hj0 (by omega)
  ·
   have : i = n := by omega
   subst this
   go_wp2
   go_ret
   refine ⟨ret_i64 (idxOf_miss p z87 l (by have := hL.out; rw [this]; exact AA.out)), BW.out⟩

/-! ### impl_Square_84: function 84 (by hand) -/
set_option maxHeartbeats 8000000 in
theorem containsFunc_Square (p : S87 → Bool) (g : Nat) (lb : Array Value) (eg : ∀ args w, (callFunc g args).run Try.prog w = .ok (.enter g args) w) (A : Option Addr) (n c : Nat) (l : List S87) (w : World)
  (hr : Kd.C k87 w A n l) (hbig : n ≤ 9223372036854775807) (hp : PB Try.prog g lb enc_Square p w) :
  Calls Try.prog 84 #[.slice A n c, .func (.func g) #[] lb] w fun e w' => e = .returned (.bool (l.any p)) ∧ Below w.heap.size w w' := by
 have hcon := indexFunc_Square p g lb eg A n c l w hr hbig hp
 clear hr hp eg
 rw [← idxOf_any]
 generalize idxOf p l = r at hcon ⊢
 go_enter Try.func84, Try.ntmps84
 go_wp2_with (go_at_call 97; refine hcon.mono ?_; rintro e w' ⟨rfl, hb'⟩)
 go_ret
 exact ⟨rfl, hb'⟩

end Go.Proofs.Ytipiaiolhhnnhaa.PFnExactMakePuzzle
