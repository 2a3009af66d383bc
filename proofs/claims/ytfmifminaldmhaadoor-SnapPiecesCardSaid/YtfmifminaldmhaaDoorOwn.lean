/- Rows of the call's own whose capacity is not known: what they hold, what keeps them, append. No program in sight. -/
import Derived.Test.YtfmifminaldmhaaDoorVc
import Derived.Maps.AppendAt
namespace Go.Proofs.YtfmifminaldmhaaDoor
open Go.RowKit

/-- Block g is a row of 'cap' elements of 'sz' cells each, none frozen; it begins with the cells cs. -/
def Own (w : World) (g : Nat) (t : TypeId) (cap sz : Nat) (cs : Array Value) : Prop :=
  ∃ rest : Array Value, w.heap[g]? = some (.cells (cs ++ rest) t (0, 0)) ∧ (cs ++ rest).size = cap * sz ∧ cap ≤ maxLen
theorem Own.lt {w : World} {g cap sz : Nat} {t : TypeId} {cs : Array Value} (h : Own w g t cap sz cs) : g < w.heap.size := by
  obtain ⟨r, h, _⟩ := h
  exact (Array.getElem?_eq_some_iff.1 h).1
theorem Own.bk {w : World} {g cap sz : Nat} {t : TypeId} {cs : Array Value} (h : Own w g t cap sz cs) : ∃ rest, Bk w g (cs ++ rest) t := ⟨h.choose, h.choose_spec.1⟩
theorem Own.cell {w : World} {g cap sz : Nat} {t : TypeId} {cs : Array Value} (h : Own w g t cap sz cs) (i : Nat) {v : Value} (hv : cs[i]? = some v) : w.cell? ⟨g, i, none⟩ = some v := by
  obtain ⟨r, hb⟩ := h.bk
  have hi : i < cs.size := (Array.getElem?_eq_some_iff.1 hv).1
  exact hb.cell i (by rw [Array.getElem?_append_left hi]; exact hv)
theorem Own.frozen {w : World} {g cap sz : Nat} {t : TypeId} {cs : Array Value} (h : Own w g t cap sz cs) (i : Nat) : w.frozen? ⟨g, i, none⟩ = false := by
  obtain ⟨r, hb⟩ := h.bk; exact hb.frozen i
theorem Own.has {w : World} {g cap sz : Nat} {t : TypeId} {cs : Array Value} (h : Own w g t cap sz cs) (i : Nat) {v : Value} (hv : cs[i]? = some v) : Has w ⟨g, i, none⟩ := ⟨⟨_, h.cell i hv⟩, h.frozen i⟩
theorem Own.row {w : World} {g cap sz : Nat} {t : TypeId} {cs xs : Array Value} (h : Own w g t cap sz cs) (o : Nat) (hx : cs.extract o (o + xs.size) = xs) : RowAt w ⟨g, o, none⟩ xs := by
  intro i v hv
  rw [add_plain]
  refine h.cell (o + i) ?_
  rw [← hx, Array.getElem?_extract] at hv
  split at hv
  · exact hv
  · cases hv
theorem Own.keep {w w' : World} {g cap sz : Nat} {t : TypeId} {cs : Array Value} (h : Own w g t cap sz cs) (hb : w'.heap[g]? = w.heap[g]?) : Own w' g t cap sz cs := by
  obtain ⟨r, h1, h2⟩ := h
  exact ⟨r, hb.trans h1, h2⟩
theorem Own.fr {S : List Nat} {w w' : World} {g cap sz : Nat} {t : TypeId} {cs : Array Value} (h : Own w g t cap sz cs) (r : Fr S w w') (hn : g ∉ S) : Own w' g t cap sz cs := h.keep (r.block g h.lt hn)
theorem Own.allocAt {w w1 : World} {g cap sz : Nat} {t : TypeId} {cs : Array Value} {o : Obj} (h : Own w g t cap sz cs) (hw : w1 = w.alloc o) : Own w1 g t cap sz cs := by
  subst hw; exact h.keep (Below.heap_alloc _ _ _ h.lt)
theorem Own.drewAt {w w1 : World} {g cap sz : Nat} {t : TypeId} {cs : Array Value} (h : Own w g t cap sz cs) (hw : w1 = w.drew) : Own w1 g t cap sz cs := by subst hw; exact h
theorem Own.otherAt {w w1 : World} {g cap sz : Nat} {t : TypeId} {cs : Array Value} {a : Addr} {v : Value} (h : Own w g t cap sz cs) (hw : w1 = w.setCell a v) (hne : g ≠ a.block) : Own w1 g t cap sz cs := by
  subst hw; exact h.keep (Below.heap_setCell _ _ _ _ hne)
theorem Own.otherRowAt {w w1 : World} {g cap sz : Nat} {t : TypeId} {cs : Array Value} {a : Addr} {vs : List Value} (h : Own w g t cap sz cs) (hw : w1 = setRow w a 0 vs) (hne : g ≠ a.block) : Own w1 g t cap sz cs := by
  subst hw; exact h.keep (setRow_block _ _ _ _ hne)
theorem Own.setAt {w w1 : World} {g cap sz : Nat} {t : TypeId} {cs cs' : Array Value} (h : Own w g t cap sz cs) (i : Nat) {v : Value} (hw : w1 = w.setCell ⟨g, i, none⟩ v) (hi : Nat.blt i cs.size = true) (e : cs.setIfInBounds i v = cs') : Own w1 g t cap sz cs' := by
  subst hw; subst e
  obtain ⟨r, h1, h2, h3⟩ := h
  have hi : i < cs.size := by simpa [Nat.blt_eq] using hi
  refine ⟨r, ?_, by simpa using h2, h3⟩
  have := (show Bk w g (cs ++ r) t from h1).set i v
  unfold Bk at this
  rw [this, Array.setIfInBounds_append_left hi]
theorem Own.of_bk {w : World} {g cap sz : Nat} {t : TypeId} {cs : Array Value} (h : Bk w g cs t) (hs : cs.size = cap * sz) (hc : Nat.ble cap 140737488355328 = true) : Own w g t cap sz cs :=
  ⟨#[], by rw [Array.append_empty]; exact h, by simpa using hs, by have := Nat.le_of_ble_eq_true hc; unfold maxLen; omega⟩
theorem Own.of_owns {w : World} {g n cap sz : Nat} {t : TypeId} {xs : List Value} (h : w.ownsRow 0 t sz (.slice (some ⟨g, 0, none⟩) n cap) n xs) : Own w g t cap sz xs.toArray := by
  obtain ⟨h0, h⟩ := h
  rcases h with ⟨h, _⟩ | ⟨g', cap', cur, hv, _, hb, hn, hc, hs, ht⟩
  · simp at h
  · simp only [Value.slice.injEq, Option.some.injEq, Addr.mk.injEq, and_true, true_and] at hv
    obtain ⟨rfl, rfl⟩ := hv
    refine ⟨cur.extract (n * sz) cur.size, ?_, ?_, hc⟩
    · rw [hb]
      congr 2
      rw [← ht]
      apply Array.toList_inj.1
      simp only [Array.toList_append, Array.toList_extract]
      have hx : cur.toList.extract (n * sz) cur.size = cur.toList.drop (n * sz) := by rw [List.extract_eq_take_drop]; exact List.take_of_length_le (by simp)
      rw [hx]
      exact (List.take_append_drop _ _).symm
    · rw [← hs, ← ht]
      simp
      have : n * sz ≤ cur.size := by rw [hs]; exact Nat.mul_le_mul_right _ hn
      omega
theorem append_nil {P : Program} {w : World} {T ty t : TypeId} {z : Value} {sz bytes m c o bx : Nat} {ys : Array Value} {Q : Prop} (hx : RowAt w ⟨bx, o, none⟩ ys)
    (ht : P.underlying T = some (.slice t)) (hi : (P.info? t).map (fun i => (i.zero, i.size, i.bytes)) = some (some z, sz, bytes)) (hzc : z.cells.size = sz) (hz : Nat.blt 0 sz = true) (hm : ys.size = m * sz) (hm0 : Nat.blt 0 m = true) (hp : ys.toList.all Value.oneCell' = true)
    (hl : Nat.ble m 140737488355328 = true) (hb : Nat.ble (m * bytes) 140737488355328 = true)
    (K : ∀ (g1 cap1 : Nat) (w1 : World), (Builtin.append_ #[T, T] ty #[.slice none 0 0, .slice (some ⟨bx, o, none⟩) m c]).run P w = .ok (.slice (some ⟨g1, 0, none⟩) m cap1) w1 → w.heap.size ≤ g1 → Own w1 g1 t cap1 sz ys → Fr [] w w1 → Q) : Q := by
  have hz : 0 < sz := by simpa [Nat.blt_eq] using hz
  have hm0 : 0 < m := by simpa [Nat.blt_eq] using hm0
  obtain ⟨i0, hi0, hzz⟩ := Option.map_eq_some_iff.1 hi
  simp only [Prod.mk.injEq] at hzz
  obtain ⟨hz0, hz1, hz2⟩ := hzz
  have hnilrow : w.ownsRow 0 t sz (.slice none 0 0) 0 [] := ⟨by simp, .inl ⟨rfl, rfl⟩⟩
  obtain ⟨v', w', hr, hown, hg, hnil, hat⟩ := run_append_own_at (P := P) w 0 T ty t i0 z sz bytes ht hi0 hz0 hz1 hz2 hzc hz _ 0 [] hnilrow ⟨bx, o, none⟩ m c ys.toList (by simpa using hm)
    (fun j u hj => hx j u (by simpa using hj)) (fun u hu => List.all_eq_true.1 hp u hu) (by have := Nat.le_of_ble_eq_true hl; unfold maxLen; omega) (by rw [Nat.zero_add]; exact Nat.le_of_ble_eq_true hb) (Nat.zero_le _)
  rw [Nat.zero_add] at hown
  obtain ⟨g1, cap1, rfl⟩ : ∃ g1 cap1, v' = .slice (some ⟨g1, 0, none⟩) m cap1 := by
    rcases hown.2 with ⟨hv, hm'⟩ | ⟨g1, cap1, cur, hv, _⟩
    · omega
    · exact ⟨g1, cap1, hv⟩
  refine K g1 cap1 w' hr ?_ ?_ ⟨hg.os, hg.tape, hg.output, hg.size, fun k hk _ => hg.block k hk (fun he => by simp [Value.ownBlock] at he)⟩
  · rcases hat with hat | hat <;> simp [Value.ownBlock] at hat
    omega
  · have := Own.of_owns hown
    simpa using this
end Go.Proofs.YtfmifminaldmhaaDoor
