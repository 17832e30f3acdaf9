/- slices.SortFunc's row (the shelf's words) and a row of the print's words: from one to the other. -/
import Derived.Test.YtipiaiolhhnnhaaH
import Derived.Shelf.SlSortCmp.WholeK
namespace Go.Proofs.YtipiaiolhhnnhaaS
open Go.RowKit Go.Sort Go.Proofs.YtipiaiolhhnnhaaW.PrintWords Go.Proofs.YtipiaiolhhnnhaaW.PrintLast Go.Proofs.YtipiaiolhhnnhaaW.PrintMore
set_option linter.unusedVariables false
set_option linter.unusedSimpArgs false
variable {α β : Type} [Inhabited α]

theorem flat_part (enc : α → List Value) (k : Nat) (hk : ∀ x, (enc x).length = k) (d : Array α) (j : Nat) (hj : j < d.size) :
    ((flatK enc k d).toList.drop (j * k)).take k = enc d[j]! := by
  have hlt : j * k + k ≤ d.size * k := by
    have := Nat.mul_le_mul_right k (show j + 1 ≤ d.size from hj); rwa [Nat.add_mul, Nat.one_mul] at this
  apply List.ext_getElem
  · simp [hk]; omega
  · intro i h1 h2
    have hi : i < k := by rw [hk] at h2; exact h2
    have e1 : (j * k + i) / k = j := (blk_iff k j _ (by omega)).1 ⟨by omega, by omega⟩
    have e2 : (j * k + i) % k = i := by rw [Nat.mod_eq_sub_div_mul, e1]; omega
    have hg := get_flatK enc k d (j * k + i) (by omega)
    rw [e1, e2] at hg
    rw [getElem!_pos (flatK enc k d) (j * k + i) (by rw [size_flatK]; omega), getElem!_pos _ i h2] at hg
    simp only [List.getElem_take, List.getElem_drop, Array.getElem_toList]
    exact hg

theorem R_holds {k : Kd β} {encB : β → List Value} (hm : ∀ {w : World} {base : Nat} {ok : Nat → Prop} {x : β} {cs : List Value}, k.M w base ok x cs → cs = encB x) (hl : ∀ x, (encB x).length = k.sz) (emb : α → β) {e : Nat} {w : World} {base : Nat} {ok : Nat → Prop} {g n c : Nat} (d : Array α)
    (h : k.R e w base ok (.slice (some ⟨g, 0, none⟩) n c) (d.toList.map emb)) : HoldsK (fun x => encB (emb x)) k.sz w g 0 d := by
  obtain ⟨h0, inner, ⟨k1, k2⟩, hr⟩ := h
  rcases k2 with ⟨k2, _⟩ | ⟨g', cap, cur, hv, hb, hh, hn, hmx, hs, ht⟩
  · cases k2
  injection hv with ha hn' hc
  injection ha with ha
  injection ha with hg'
  subst hg'; subst hc
  simp only [List.length_map, Array.length_toList] at *
  intro j hj
  rw [size_flatK] at hj
  have hsz : 0 < k.sz := by rcases Nat.eq_zero_or_pos k.sz with h | h; · rw [h] at hj; simp at hj
                            · exact h
  have hqj : j / k.sz < d.size := Nat.div_lt_of_lt_mul (by rw [Nat.mul_comm]; exact hj)
  have hin : inner = (flatK (fun x => encB (emb x)) k.sz d).toList := by
    apply List.ext_getElem?
    intro t
    by_cases htl : t < d.size * k.sz
    · have hq : t / k.sz < d.size := Nat.div_lt_of_lt_mul (by rw [Nat.mul_comm]; exact htl)
      have hM := hm (hr.2 (t / k.sz) (emb d[t / k.sz]) (by simp [hq]))
      have hF := flat_part (fun x => encB (emb x)) k.sz (fun x => hl _) d (t / k.sz) hq
      rw [show d[t / k.sz]! = d[t / k.sz] from getElem!_pos d (t / k.sz) hq] at hF
      rw [← hF] at hM
      have hmod : t % k.sz < k.sz := Nat.mod_lt _ hsz
      have hdm : t / k.sz * k.sz + t % k.sz = t := Nat.div_add_mod' t k.sz
      have := congrArg (fun l => l[t % k.sz]?) hM
      simp only [List.getElem?_take, hmod, if_true, List.getElem?_drop, hdm] at this
      exact this
    · rw [List.getElem?_eq_none (by omega), List.getElem?_eq_none (by simp; omega)]
  have hcur : cur[j]? = some ((flatK (fun x => encB (emb x)) k.sz d)[j]!) := by
    have h1 : (cur.toList.take (d.size * k.sz))[j]? = cur[j]? := by rw [List.getElem?_take, if_pos hj]; simp
    rw [← h1, ht, hin, getElem!_pos _ j (by rw [size_flatK]; exact hj)]
    simp [hj]
  refine ⟨?_, ?_⟩
  · simp only [World.cell?, hh, Nat.zero_add]
    simpa using hcur
  · simp [World.frozen?, hh]

theorem R_sorted {k : Kd β} {encB : β → List Value} (hm : ∀ (w : World) (base : Nat) (ok : Nat → Prop) (x : β), k.M w base ok x (encB x)) (hl : ∀ x, (encB x).length = k.sz) (emb : α → β) {e : Nat} {w : World} {base : Nat} {ok : Nat → Prop} {g n c : Nat} {xs : List β} (d : Array α)
    (h : k.R e w base ok (.slice (some ⟨g, 0, none⟩) n c) xs) (hd : d.size = xs.length) (m : Nat) (os : Array Obj) :
    k.R e (sortWorldK (fun x => encB (emb x)) k.sz w g 0 m d os) base ok (.slice (some ⟨g, 0, none⟩) n c) (d.toList.map emb) := by
  obtain ⟨h0, inner, ⟨k1, k2⟩, hr⟩ := h
  rcases k2 with ⟨k2, _⟩ | ⟨g', cap, cur, hv, hb, hh, hn, hmx, hs, ht⟩
  · cases k2
  injection hv with ha hn' hc
  injection ha with ha
  injection ha with hg'
  subst hg'; subst hc
  have hgs : g < w.heap.size := blk_lt hh
  have hcs : d.size * k.sz ≤ cur.size := by rw [hs, hd]; exact Nat.mul_le_mul_right _ (by omega)
  have hheap : (sortWorldK (fun x => encB (emb x)) k.sz w g 0 m d os).heap[g]? = some (.cells (putCells id 0 (flatK (fun x => encB (emb x)) k.sz d) cur) e (0, 0)) := by
    show ((w.heap.modify g (onCells (putCells id 0 (flatK (fun x => encB (emb x)) k.sz d)))) ++ os)[g]? = _
    rw [Array.getElem?_append_left (by simpa using hgs), Array.getElem?_modify, if_pos rfl, hh]
    rfl
  refine ⟨h0, (flatK (fun x => encB (emb x)) k.sz d).toList, ⟨by simp, .inr ⟨g, c, _, by rw [hn']; simp [hd], hb, hheap, by simp; omega, hmx, by simp [putCells, hs], ?_⟩⟩, by simp, ?_⟩
  · apply List.ext_getElem?
    intro t
    simp only [List.length_map, Array.length_toList]
    rw [List.getElem?_take]
    by_cases htl : t < d.size * k.sz
    · rw [if_pos htl]
      have htc : t < cur.size := by omega
      simp [putCells, htl, htc]
    · rw [if_neg htl, List.getElem?_eq_none (by simp; omega)]
  · intro j p hj
    simp only [List.getElem?_map, Array.getElem?_toList] at hj
    rcases Nat.lt_or_ge j d.size with hjd | hjd
    · rw [Array.getElem?_eq_getElem hjd] at hj
      obtain rfl := Option.some.inj hj
      rw [flat_part (fun x => encB (emb x)) k.sz (fun x => hl _) d j hjd, getElem!_pos d j hjd]
      exact hm _ _ _ _
    · rw [Array.getElem?_eq_none hjd] at hj; cases hj

theorem below_sorted {enc : α → List Value} {k : Nat} {w0 w : World} {B g m : Nat} {d : Array α} {os : Array Obj} (hb : Go.RowKit.Below B w0 w) (hg : B ≤ g) (hB : B ≤ w.heap.size) : Go.RowKit.Below B w0 (sortWorldK enc k w g 0 m d os) := by
  refine hb.trans ⟨rfl, rfl, rfl, ?_, fun q hq => ?_⟩
  · show w.heap.size ≤ ((w.heap.modify g _) ++ os).size
    simp
  · show ((w.heap.modify g _) ++ os)[q]? = w.heap[q]?
    rw [Array.getElem?_append_left (by simp; omega), Array.getElem?_modify, if_neg (by omega)]
end Go.Proofs.YtipiaiolhhnnhaaS
