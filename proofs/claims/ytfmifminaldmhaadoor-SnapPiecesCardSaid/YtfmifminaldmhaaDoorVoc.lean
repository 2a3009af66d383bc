/- Plain words on worlds: a block known whole, and what keeps it. No program in sight. -/
import Derived.Handy
import Derived.WalkSpells
import Derived.WalkLawsBesides
import Derived.Lib.Hide
namespace Go.Proofs.YtfmifminaldmhaaDoor
open Go.RowKit

/-- Block b holds just these cells, none of them frozen. -/
def Bk (w : World) (b : Nat) (cs : Array Value) (t : TypeId) : Prop := w.heap[b]? = some (.cells cs t (0, 0))
theorem Bk.lt {w : World} {b : Nat} {cs : Array Value} {t : TypeId} (h : Bk w b cs t) : b < w.heap.size := (Array.getElem?_eq_some_iff.1 h).1
theorem Bk.cell {w : World} {b : Nat} {cs : Array Value} {t : TypeId} (h : Bk w b cs t) (i : Nat) {v : Value} (hv : cs[i]? = some v) : w.cell? ⟨b, i, none⟩ = some v := by
  unfold Bk at h; simp [World.cell?, h, hv]
theorem Bk.frozen {w : World} {b : Nat} {cs : Array Value} {t : TypeId} (h : Bk w b cs t) (i : Nat) : w.frozen? ⟨b, i, none⟩ = false := by
  unfold Bk at h; simp [World.frozen?, h]
theorem Bk.below {w w' : World} {B b : Nat} {cs : Array Value} {t : TypeId} (h : Bk w b cs t) (hb : Below B w w') (hB : b < B) : Bk w' b cs t := by
  unfold Bk at h ⊢; rw [hb.block b hB]; exact h
theorem Bk.new (w : World) (cs : Array Value) (t : TypeId) : Bk (w.alloc (.cells cs t)) w.heap.size cs t := by
  show (w.heap.push _)[w.heap.size]? = _
  rw [Array.getElem?_push, if_pos rfl]
theorem Bk.alloc {w : World} {b : Nat} {cs : Array Value} {t : TypeId} (h : Bk w b cs t) (o : Obj) : Bk (w.alloc o) b cs t := by
  have := h.lt; unfold Bk at h ⊢; rw [Below.heap_alloc _ _ _ this]; exact h
theorem Bk.drew {w : World} {b : Nat} {cs : Array Value} {t : TypeId} (h : Bk w b cs t) : Bk w.drew b cs t := h
theorem Bk.drewN {w : World} {b : Nat} {cs : Array Value} {t : TypeId} (h : Bk w b cs t) (n : Nat) : Bk (w.drewN n) b cs t := h
theorem Bk.set {w : World} {b : Nat} {cs : Array Value} {t : TypeId} (h : Bk w b cs t) (i : Nat) (v : Value) : Bk (w.setCell ⟨b, i, none⟩ v) b (cs.setIfInBounds i v) t := by
  unfold Bk at h ⊢; simp [World.setCell, Array.getElem?_modify, h]
theorem Bk.other {w : World} {b : Nat} {cs : Array Value} {t : TypeId} (h : Bk w b cs t) {a : Addr} (v : Value) (hne : b ≠ a.block) : Bk (w.setCell a v) b cs t := by
  unfold Bk at h ⊢; rw [Below.heap_setCell _ _ _ _ hne]; exact h

/-! ### What has become of a world: of the old blocks those in S alone may have turned -/
structure Fr (S : List Nat) (w w' : World) : Prop where
  os : w'.os = w.os
  tape : w'.tape = w.tape
  output : w'.output = w.output
  size : w.heap.size ≤ w'.heap.size
  block : ∀ k, k < w.heap.size → k ∉ S → w'.heap[k]? = w.heap[k]?
theorem Fr.refl (w : World) : Fr [] w w := ⟨rfl, rfl, rfl, Nat.le_refl _, fun _ _ _ => rfl⟩
theorem Fr.mono {S S' : List Nat} {w w' : World} (h : Fr S w w') (hs : ∀ k, k ∈ S → k ∈ S') : Fr S' w w' := ⟨h.os, h.tape, h.output, h.size, fun k hk hn => h.block k hk (fun hm => hn (hs k hm))⟩
theorem Fr.trans {S S2 : List Nat} {a b c : World} (h : Fr S a b) (k : Fr S2 b c) (hs : ∀ x, x ∈ S2 → x ∈ S ∨ a.heap.size ≤ x) : Fr S a c :=
  ⟨k.os.trans h.os, k.tape.trans h.tape, k.output.trans h.output, Nat.le_trans h.size k.size, fun i hi hn =>
    (k.block i (Nat.lt_of_lt_of_le hi h.size) (fun hm => (hs i hm).elim hn (fun hle => absurd hi (Nat.not_lt.2 hle)))).trans (h.block i hi hn)⟩
theorem Fr.then {S : List Nat} {a b c : World} (h : Fr S a b) (k : Fr [] b c) : Fr S a c := h.trans k (fun _ hx => absurd hx List.not_mem_nil)
theorem Fr.alloc {S : List Nat} {w0 w w1 : World} {o : Obj} (r : Fr S w0 w) (h : w1 = w.alloc o) : Fr S w0 w1 := by
  subst h
  exact ⟨r.os, r.tape, r.output, Nat.le_trans r.size (by simp), fun k hk hn => (Below.heap_alloc _ _ _ (Nat.lt_of_lt_of_le hk r.size)).trans (r.block k hk hn)⟩
theorem Fr.set {S : List Nat} {w0 w w1 : World} {a : Addr} {v : Value} (r : Fr S w0 w) (hb : a.block ∈ S ∨ w0.heap.size ≤ a.block) (h : w1 = w.setCell a v) : Fr S w0 w1 := by
  subst h
  refine ⟨r.os, r.tape, r.output, by simpa [World.setCell] using r.size, fun k hk hn => ?_⟩
  have hne : k ≠ a.block := by
    rintro rfl
    exact hb.elim hn (fun hle => absurd hk (Nat.not_lt.2 hle))
  exact (Below.heap_setCell _ _ _ _ hne).trans (r.block k hk hn)
theorem Fr.drew {S : List Nat} {w0 w : World} (r : Fr S w0 w) : Fr S w0 w.drew := ⟨r.os, r.tape, r.output, r.size, r.block⟩
theorem Fr.drewN {S : List Nat} {w0 w : World} (r : Fr S w0 w) (n : Nat) : Fr S w0 (w.drewN n) := ⟨r.os, r.tape, r.output, r.size, r.block⟩
theorem Fr.below {w w' : World} (h : Fr [] w w') : Below w.heap.size w w' := ⟨h.os, h.tape, h.output, h.size, fun k hk => h.block k hk List.not_mem_nil⟩
theorem Fr.cell {S : List Nat} {w w' : World} (h : Fr S w w') {a : Addr} {v : Value} (hc : w.cell? a = some v) (hn : a.block ∉ S) : w'.cell? a = some v := by
  have hb := World.block_lt_of_cell? w a hc
  rw [World.cell?_of_block (w := w) (h.block a.block hb hn)]; exact hc
theorem Bk.fr {S : List Nat} {w w' : World} {b : Nat} {cs : Array Value} {t : TypeId} (h : Bk w b cs t) (r : Fr S w w') (hn : b ∉ S) : Bk w' b cs t := by
  have := h.lt; unfold Bk at h ⊢; rw [r.block b this hn]; exact h
theorem Bk.newAt {w w1 : World} {b : Nat} {cs : Array Value} {t : TypeId} (hb : b = w.heap.size) (hw : w1 = w.alloc (.cells cs t)) : Bk w1 b cs t := by subst hb; subst hw; exact Bk.new _ _ _
theorem Bk.allocAt {w w1 : World} {b : Nat} {cs : Array Value} {t : TypeId} {o : Obj} (h : Bk w b cs t) (hw : w1 = w.alloc o) : Bk w1 b cs t := by subst hw; exact h.alloc _
theorem Bk.setAt {w w1 : World} {b : Nat} {cs cs' : Array Value} {t : TypeId} (h : Bk w b cs t) (i : Nat) {v : Value} (hw : w1 = w.setCell ⟨b, i, none⟩ v) (e : cs.setIfInBounds i v = cs') : Bk w1 b cs' t := by subst hw; subst e; exact h.set i v
theorem Bk.otherAt {w w1 : World} {b : Nat} {cs : Array Value} {t : TypeId} {a : Addr} {v : Value} (h : Bk w b cs t) (hw : w1 = w.setCell a v) (hne : b ≠ a.block) : Bk w1 b cs t := by subst hw; exact h.other v hne
theorem Bk.drewAt {w w1 : World} {b : Nat} {cs : Array Value} {t : TypeId} (h : Bk w b cs t) (hw : w1 = w.drew) : Bk w1 b cs t := by subst hw; exact h
theorem Fr.drewAt {S : List Nat} {w0 w w1 : World} (r : Fr S w0 w) (hw : w1 = w.drew) : Fr S w0 w1 := by subst hw; exact r.drew
end Go.Proofs.YtfmifminaldmhaaDoor
