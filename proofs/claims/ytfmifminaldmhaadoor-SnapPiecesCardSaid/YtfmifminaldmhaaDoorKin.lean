/- Rows of elements told by an encoding; footprints; loops as plain functions. No program in sight. -/
import Derived.Test.YtfmifminaldmhaaDoorOwn
import Derived.Deep.Upon
import Derived.Laws.OwnMore
import Derived.Laws.IdiomCopy
set_option linter.unusedVariables false
set_option linter.unusedSimpArgs false
namespace Go.Proofs.YtfmifminaldmhaaDoor
open Go.RowKit

/-! ### Plain functions with an end: none is a panic, or no end -/
def it {X Y : Type} (step : X → Option (X ⊕ Y)) : Nat → X → Option Y
  | 0, _ => none
  | n + 1, x => match step x with
    | none => none
    | some (.inl x') => it step n x'
    | some (.inr y) => some y
theorem it_more {X Y : Type} {step : X → Option (X ⊕ Y)} {y : Y} : ∀ {n : Nat} {x : X}, it step n x = some y → it step (n + 1) x = some y := by
  intro n
  induction n with
  | zero => intro x h; cases h
  | succ n ih =>
    intro x h
    unfold it at h ⊢
    split at h
    · cases h
    · exact ih h
    · exact h
theorem it_le {X Y : Type} {step : X → Option (X ⊕ Y)} {x : X} {y : Y} {n m : Nat} (h : it step n x = some y) (hm : n ≤ m) : it step m x = some y := by
  induction hm with
  | refl => exact h
  | step _ ih => exact it_more ih
theorem it_det {X Y : Type} {step : X → Option (X ⊕ Y)} {x : X} {y y' : Y} {n m : Nat} (h : it step n x = some y) (h' : it step m x = some y') : y = y' := by
  rcases Nat.le_total n m with hl | hl
  · have := it_le h hl; rw [h'] at this; exact (Option.some.inj this).symm
  · have := it_le h' hl; rw [h] at this; exact Option.some.inj this
open Classical in
noncomputable def loop {X Y : Type} (step : X → Option (X ⊕ Y)) (x : X) : Option Y := if h : ∃ y, ∃ n, it step n x = some y then some h.choose else none
theorem loop_of {X Y : Type} {step : X → Option (X ⊕ Y)} {x : X} {y : Y} {n : Nat} (h : it step n x = some y) : loop step x = some y := by
  have hx : ∃ y, ∃ n, it step n x = some y := ⟨y, n, h⟩
  unfold loop
  rw [dif_pos hx]
  obtain ⟨m, hm⟩ := hx.choose_spec
  rw [it_det hm h]
theorem loop_it {X Y : Type} {step : X → Option (X ⊕ Y)} {x : X} {y : Y} (h : loop step x = some y) : ∃ n, it step n x = some y := by
  unfold loop at h
  split at h
  · rename_i hx
    obtain ⟨m, hm⟩ := hx.choose_spec
    exact ⟨m, by rw [hm]; exact h⟩
  · cases h
theorem loop_next {X Y : Type} {step : X → Option (X ⊕ Y)} {x x' : X} {o : Option Y} (h : step x = some (.inl x')) (k : loop step x' = o) : loop step x = o := by
  cases o with
  | some y =>
    obtain ⟨n, hn⟩ := loop_it k
    exact loop_of (n := n + 1) (by unfold it; rw [h]; exact hn)
  | none =>
    cases hx : loop step x with
    | none => rfl
    | some y =>
      obtain ⟨n, hn⟩ := loop_it hx
      cases n with
      | zero => cases hn
      | succ n =>
        unfold it at hn
        rw [h] at hn
        rw [loop_of hn] at k
        cases k
theorem loop_end {X Y : Type} {step : X → Option (X ⊕ Y)} {x : X} {y : Y} (h : step x = some (.inr y)) : loop step x = some y := loop_of (n := 1) (by unfold it; rw [h])
/-- A loop ends: an invariant, a measure. -/
theorem loop_inv {X Y : Type} {step : X → Option (X ⊕ Y)} (I : X → Prop) (m : X → Nat) (Post : Y → Prop) (round : ∀ x, I x → (∃ x', step x = some (.inl x') ∧ I x' ∧ m x' < m x) ∨ (∃ y, step x = some (.inr y) ∧ Post y)) {x : X} (h : I x) : ∃ y, loop step x = some y ∧ Post y := by
  generalize hn : m x = n
  induction n using Nat.strongRecOn generalizing x with
  | ind n ih =>
    subst hn
    rcases round x h with ⟨x', h1, h2, h3⟩ | ⟨y, h1, h2⟩
    · obtain ⟨y, h4, h5⟩ := ih _ h3 h2 rfl
      exact ⟨y, loop_next h1 h4, h5⟩
    · exact ⟨y, loop_end h1, h2⟩

/-- A function that calls itself, so many calls deep. -/
def itR {A Y : Type} (s : (A → Option Y) → A → Option Y) : Nat → A → Option Y
  | 0, _ => none
  | n + 1, a => s (itR s n) a
theorem bif_t {α : Type} {c : Bool} {A B : α} {r : α} (h : c = true) (H : (bif c then A else B) = r) : A = r := by rw [h] at H; exact H
theorem bif_f {α : Type} {c : Bool} {A B : α} {r : α} (h : c = false) (H : (bif c then A else B) = r) : B = r := by rw [h] at H; exact H
def bind1 {α β : Type} (x : α) (f : α → β) : β := f x
theorem bind_e {α β : Type} {o : Option α} {f : α → Option β} {r : β} {P : Prop} (H : o.bind f = some r) (k : ∀ y, o = some y → f y = some r → P) : P := by
  cases o with
  | none => cases H
  | some y => exact k y rfl H
theorem some_e {α : Type} {x y : α} (H : some x = some y) : x = y := Option.some.inj H
/-- A loop whose rounds are a plain function's. -/
theorem atC_it {P : Program} {root : Code} {p : List Nat} {B : Exit → Act → World → Prop} {a : Act} {w : World} {X Y : Type} {step : X → Option (X ⊕ Y)} {x : X} {y : Y} (H : loop step x = some y) (hl : sub root p = .loop (loopOf (sub root p))) (I : X → Act → World → Prop) (h0 : I x a w)
    (round : ∀ x a w s, I x a w → step x = some s → (∀ y', s = .inr y' → y' = y) → atC P (loopOf (sub root p)) [] (Exit.then (fun a' w' => ∃ x', s = .inl x' ∧ I x' a' w') (ctx P root p B)) a w) : atC P root p B a w := by
  obtain ⟨n, hn⟩ := loop_it H
  refine atC_loop hl (fun n a w => ∃ x, it step n x = some y ∧ I x a w) n ⟨x, hn, h0⟩ (fun n a w ⟨x, hn, hI⟩ => ?_)
  cases n with
  | zero => cases hn
  | succ n =>
    unfold it at hn
    split at hn
    · cases hn
    · rename_i x' hs
      have := round x a w _ hI hs (fun y' e => by cases e)
      unfold atC at this ⊢
      rw [sub_nil, ctx_nil] at this ⊢
      refine Code.wp_mono (fun e a w h => ?_) this
      cases e with
      | normal =>
        obtain ⟨x'', e, hI⟩ := h
        cases e
        exact ⟨n, Nat.lt_succ_self n, x', hn, hI⟩
      | _ => exact h
    · rename_i y' hs
      cases hn
      have := round x a w _ hI hs (fun y' e => by cases e; rfl)
      unfold atC at this ⊢
      rw [sub_nil, ctx_nil] at this ⊢
      refine Code.wp_mono (fun e a w h => ?_) this
      cases e with
      | normal => obtain ⟨x'', e, hI⟩ := h; cases e
      | _ => exact h

/-! ### Footprints -/
def Dj (F G : List Nat) : Prop := ∀ p, p ∈ F → p ∉ G
def Sub (n : Nat) (F F' : List Nat) : Prop := ∀ p, p ∈ F' → p ∈ F ∨ n ≤ p
def Lo (n : Nat) (F : List Nat) : Prop := ∀ p, p ∈ F → p < n
def blk : Option Addr → List Nat | none => [] | some a => [a.block]
theorem Dj.symm {F G : List Nat} (h : Dj F G) : Dj G F := fun p hp hq => h p hq hp
theorem Dj.nil {F : List Nat} : Dj F [] := fun _ _ => List.not_mem_nil
theorem Dj.app {F G H : List Nat} (h : Dj F G) (k : Dj F H) : Dj F (G ++ H) := fun p hp hq => (List.mem_append.1 hq).elim (h p hp) (k p hp)
theorem Dj.new {n b : Nat} {F : List Nat} (h : Lo n F) (hb : b = n) : Dj F [b] := fun p hp hq => by
  have := h p hp
  have e : p = b := by simpa using hq
  omega
theorem Dj.grow {n : Nat} {F F' G : List Nat} (h : Dj F G) (g : Sub n F F') (l : Lo n G) : Dj F' G := fun p hp hq => by
  rcases g p hp with h0 | h0
  · exact h p h0 hq
  · have := l p hq; omega
theorem Dj.le {F F' G : List Nat} (h : Dj F G) (g : ∀ p, p ∈ F' → p ∈ F) : Dj F' G := fun p hp hq => h p (g p hp) hq
theorem Sub.refl {n : Nat} {F : List Nat} : Sub n F F := fun _ h => .inl h
theorem Sub.nil {n : Nat} {F : List Nat} : Sub n F [] := fun _ h => by cases h
theorem Sub.new {S : List Nat} {w0 w : World} {b : Nat} (r : Fr S w0 w) (hb : b = w.heap.size) : Sub w0.heap.size [] [b] := fun p hp => by
  have e : p = b := by simpa using hp
  have := r.size
  exact .inr (by omega)
theorem Sub.grow {S : List Nat} {w0 w : World} {F F1 F2 : List Nat} (r : Fr S w0 w) (h : Sub w0.heap.size F F1) (g : Sub w.heap.size F1 F2) : Sub w0.heap.size F F2 := fun p hp => by
  rcases g p hp with h0 | h0
  · exact h p h0
  · have := r.size
    exact .inr (by omega)
theorem Sub.mono {n : Nat} {F F' G : List Nat} (h : Sub n F G) (k : ∀ p, p ∈ F → p ∈ F') : Sub n F' G := fun p hp => (h p hp).imp (k p) id
theorem Sub.le {n : Nat} {F G G' : List Nat} (h : Sub n F G) (k : ∀ p, p ∈ G' → p ∈ G) : Sub n F G' := fun p hp => h p (k p hp)
theorem Sub.app {n : Nat} {F G H : List Nat} (h : Sub n F G) (k : Sub n F H) : Sub n F (G ++ H) := fun p hp => (List.mem_append.1 hp).elim (h p) (k p)
theorem Fr.step_alloc {w w1 : World} {o : Obj} (h : w1 = w.alloc o) : Fr [] w w1 := (Fr.refl w).alloc h
theorem Bk.lo {w : World} {b : Nat} {cs : Array Value} {t : TypeId} (h : Bk w b cs t) : Lo w.heap.size [b] := fun p hp => by
  have e : p = b := by simpa using hp
  exact e ▸ h.lt
theorem Bk.move {w w' : World} {S : List Nat} {b : Nat} {cs : Array Value} {t : TypeId} (h : Bk w b cs t) (r : Fr S w w') (d : Dj [b] S) : Bk w' b cs t := h.fr r (d b (by simp))

theorem RowAt.fr_ {S : List Nat} {w w' : World} {a : Addr} {cs : Array Value} (h : RowAt w a cs) (r : Fr S w w') (hn : a.block ∉ S) : RowAt w' a cs :=
  fun i v hv => r.cell (h i v hv) (by
    have : (a.add i).block = a.block := by unfold Addr.add; split <;> rfl
    rw [this]; exact hn)

/-! ### Elements and rows -/
structure IEnc (α : Type) where
  sz : Nat
  cells : Nat → α → List Value
  len : ∀ i a, (cells i a).length = sz
  plain : ∀ i a v, v ∈ cells i a → v.oneCell' = true
def el {α : Type} [Inhabited α] : List α → Nat → α
  | [], _ => default
  | x :: _, 0 => x
  | _ :: xs, n + 1 => el xs n
theorem el_getD {α : Type} [Inhabited α] (xs : List α) : ∀ i : Nat, el xs i = xs.getD i default := by
  induction xs with
  | nil => intro i; rfl
  | cons x xs ih => intro i; cases i with
    | zero => rfl
    | succ i => exact (ih i).trans (by simp)
def rowc {α : Type} (E : IEnc α) : Nat → List α → List Value
  | _, [] => []
  | i, x :: xs => E.cells i x ++ rowc E (i + 1) xs
def eI (k : IntKind) : IEnc Int := ⟨1, fun _ n => [.int k n], fun _ _ => rfl, fun _ _ v h => by simp at h; subst h; rfl⟩
def eB : IEnc Bool := ⟨1, fun _ n => [.bool n], fun _ _ => rfl, fun _ _ v h => by simp at h; subst h; rfl⟩
section
variable {α : Type} {E : IEnc α}
theorem rowc_len : ∀ (xs : List α) (i : Nat), (rowc E i xs).length = xs.length * E.sz := by
  intro xs
  induction xs with
  | nil => intro i; simp [rowc]
  | cons x xs ih => intro i; simp [rowc, E.len, ih, Nat.add_mul]; omega
theorem rowc_app : ∀ (xs ys : List α) (i : Nat), rowc E i (xs ++ ys) = rowc E i xs ++ rowc E (i + xs.length) ys := by
  intro xs ys
  induction xs with
  | nil => intro i; simp [rowc]
  | cons x xs ih => intro i; simp [rowc, ih, List.append_assoc]; congr 1; omega
theorem rowc_plain : ∀ (xs : List α) (i : Nat) (v : Value), v ∈ rowc E i xs → v.oneCell' = true := by
  intro xs
  induction xs with
  | nil => intro i v h; simp [rowc] at h
  | cons x xs ih =>
    intro i v h
    rcases List.mem_append.1 h with h | h
    · exact E.plain _ _ _ h
    · exact ih _ _ h
theorem el_cons [Inhabited α] (x : α) (xs : List α) (i : Nat) : el (x :: xs) (i + 1) = el xs i := rfl
theorem rowc_get [Inhabited α] : ∀ (xs : List α) (k i j : Nat), i < xs.length → j < E.sz → (rowc E k xs)[i * E.sz + j]? = (E.cells (k + i) (el xs i))[j]? := by
  intro xs
  induction xs with
  | nil => intro k i j h; simp at h
  | cons x xs ih =>
    intro k i j h hj
    cases i with
    | zero =>
      simp only [rowc, Nat.zero_mul, Nat.zero_add]
      rw [List.getElem?_append_left (by rw [E.len]; exact hj)]
      rfl
    | succ i =>
      simp only [rowc]
      rw [List.getElem?_append_right (by rw [E.len, Nat.add_mul]; omega), E.len]
      rw [show (i + 1) * E.sz + j - E.sz = i * E.sz + j by rw [Nat.add_mul]; omega]
      rw [ih (k + 1) i j (by simpa using h) hj, el_cons]
      congr 2; omega
theorem rowc_set [Inhabited α] : ∀ (xs : List α) (k i j : Nat) (v : Value) (a : α), i < xs.length → j < E.sz → E.cells (k + i) a = (E.cells (k + i) (el xs i)).set j v → (rowc E k xs).set (i * E.sz + j) v = rowc E k (xs.set i a) := by
  intro xs
  induction xs with
  | nil => intro k i j v a h; simp at h
  | cons x xs ih =>
    intro k i j v a h hj e
    cases i with
    | zero =>
      simp only [rowc, Nat.zero_mul, Nat.zero_add, List.set_cons_zero]
      rw [List.set_append_left _ _ (by rw [E.len]; exact hj)]
      rw [show k + 0 = k from rfl] at e
      rw [e]
      rfl
    | succ i =>
      simp only [rowc, List.set_cons_succ]
      rw [List.set_append_right _ _ (by rw [E.len, Nat.add_mul]; omega), E.len]
      rw [show (i + 1) * E.sz + j - E.sz = i * E.sz + j by rw [Nat.add_mul]; omega]
      rw [ih (k + 1) i j v a (by simpa using h) hj (by rw [el_cons] at e; rw [show k + 1 + i = k + (i + 1) by omega]; exact e)]

/-- What can be read from an address on. -/
def RwR (w : World) (A : Option Addr) (E : IEnc α) (cap : Nat) (xs : List α) : Prop := xs.length ≤ cap ∧ (∀ a, A = some a → True) ∧ (xs = [] ∨ ∃ a, A = some a ∧ RowAt w a (rowc E 0 xs).toArray)
/-- A row of the call's own (or none yet). -/
def OwR (w : World) (A : Option Addr) (t : TypeId) (E : IEnc α) (cap : Nat) (xs : List α) : Prop := (A = none ∧ cap = 0 ∧ xs = []) ∨ ∃ g, A = some ⟨g, 0, none⟩ ∧ xs.length ≤ cap ∧ Own w g t cap E.sz (rowc E 0 xs).toArray
theorem RwR.nil {w : World} : RwR w none E 0 ([] : List α) := ⟨Nat.le_refl _, ⟨fun _ h => (by cases h), .inl rfl⟩⟩
theorem OwR.nil {w : World} {t : TypeId} : OwR w none t E 0 ([] : List α) := .inl ⟨rfl, rfl, rfl⟩
theorem RwR.cap {w : World} {A : Option Addr} {cap : Nat} {xs : List α} (h : RwR w A E cap xs) : xs.length ≤ cap := h.1
theorem OwR.cap {w : World} {A : Option Addr} {t : TypeId} {cap : Nat} {xs : List α} (h : OwR w A t E cap xs) : xs.length ≤ cap := by
  rcases h with ⟨_, _, rfl⟩ | ⟨g, _, hc, _⟩
  · simp
  · exact hc
theorem OwR.lo {w : World} {A : Option Addr} {t : TypeId} {cap : Nat} {xs : List α} (h : OwR w A t E cap xs) : Lo w.heap.size (blk A) := fun p hp => by
  rcases h with ⟨rfl, _⟩ | ⟨g, rfl, _, ho⟩
  · cases hp
  · have e : p = g := by simpa [blk] using hp
    exact e ▸ ho.lt
theorem RwR.move {w w' : World} {S : List Nat} {A : Option Addr} {cap : Nat} {xs : List α} (h : RwR w A E cap xs) (r : Fr S w w') (d : Dj (blk A) S) : RwR w' A E cap xs :=
  ⟨h.1, fun _ _ => trivial, h.2.2.imp id (fun ⟨a, e, k⟩ => ⟨a, e, RowAt.fr_ k r (d _ (by subst e; simp [blk]))⟩)⟩
theorem OwR.move {w w' : World} {S : List Nat} {A : Option Addr} {t : TypeId} {cap : Nat} {xs : List α} (h : OwR w A t E cap xs) (r : Fr S w w') (d : Dj (blk A) S) : OwR w' A t E cap xs :=
  h.imp id (fun ⟨g, e, hc, k⟩ => ⟨g, e, hc, k.fr r (d _ (by subst e; simp [blk]))⟩)
theorem OwR.rw {w : World} {A : Option Addr} {t : TypeId} {cap : Nat} {xs : List α} (h : OwR w A t E cap xs) : RwR w A E cap xs := by
  refine ⟨h.cap, fun _ _ => trivial, ?_⟩
  rcases h with ⟨_, _, rfl⟩ | ⟨g, rfl, _, ho⟩
  · exact .inl rfl
  · refine .inr ⟨_, rfl, fun i v hv => ?_⟩
    rw [add_plain, Nat.zero_add]
    exact ho.cell i hv
theorem add_add (a : Addr) (m n : Nat) : (a.add m).add n = a.add (m + n) := by
  unfold Addr.add
  by_cases h1 : m = 0
  · simp [h1]
  · by_cases h2 : n = 0
    · simp [h2, h1]
    · simp [h1, h2, Nat.add_assoc]
theorem addr_block {a : Addr} {n : Nat} : (a.add n).block = a.block := by unfold Addr.add; split <;> rfl
theorem RwR.some_ {w : World} {A : Option Addr} {cap i : Nat} {xs : List α} (h : RwR w A E cap xs) (hi : i < xs.length) : ∃ a, A = some a ∧ RowAt w a (rowc E 0 xs).toArray := by
  rcases h.2.2 with rfl | h
  · simp at hi
  · exact h
/-- The address of an element, for the index's condition. -/
theorem ix_e {w : World} {A : Option Addr} {cap i : Nat} {xs : List α} {G : Prop} (h : RwR w A E cap xs) (hi : i < xs.length) (k : ∀ a, A = some a → G) : G := by
  obtain ⟨a, e, _⟩ := h.some_ hi
  exact k a e
theorem RwR.at_ [Inhabited α] {w : World} {A : Option Addr} {cap i j : Nat} {xs : List α} {a : Addr} {v : Value} (h : RwR w A E cap xs) (hi : i < xs.length) (hA : A = some a) (hv : (E.cells i (el xs i))[j]? = some v) : w.cell? (a.add (i * E.sz + j)) = some v := by
  obtain ⟨a', e, k⟩ := h.some_ hi
  rw [hA] at e
  cases e
  refine k _ _ ?_
  have hj : j < E.sz := by
    have := (List.getElem?_eq_some_iff.1 hv).1
    rwa [E.len] at this
  rw [List.getElem?_toArray, rowc_get xs 0 i j hi hj, Nat.zero_add]
  exact hv
theorem RwR.at0 [Inhabited α] {w : World} {A : Option Addr} {cap i sz : Nat} {xs : List α} {a : Addr} {v : Value} (h : RwR w A E cap xs) (hs : E.sz = sz) (hi : i < xs.length) (hA : A = some a) (hv : (E.cells i (el xs i))[0]? = some v) : w.cell? (a.add (i * sz)) = some v := by
  subst hs; exact h.at_ hi hA hv
theorem RwR.row [Inhabited α] {w : World} {A : Option Addr} {cap i sz : Nat} {xs : List α} {a : Addr} {cs : Array Value} (h : RwR w A E cap xs) (hs : E.sz = sz) (hi : i < xs.length) (hA : A = some a) (hv : (E.cells i (el xs i)).toArray = cs) : RowAt w (a.add (i * sz)) cs := by
  subst hs hv
  intro j v hj
  rw [add_add]
  exact h.at_ hi hA (by simpa using hj)
theorem OwR.has_ [Inhabited α] {w : World} {A : Option Addr} {t : TypeId} {cap i j : Nat} {xs : List α} {a : Addr} (h : OwR w A t E cap xs) (hi : i < xs.length) (hA : A = some a) (hj : j < E.sz) : Has w (a.add (i * E.sz + j)) := by
  rcases h with ⟨_, _, rfl⟩ | ⟨g, e, _, ho⟩
  · simp at hi
  · rw [hA] at e
    cases e
    rw [add_plain, Nat.zero_add]
    have hl : i * E.sz + j < (rowc E 0 xs).toArray.size := by
      rw [List.size_toArray, rowc_len]
      have : (i + 1) * E.sz ≤ xs.length * E.sz := Nat.mul_le_mul_right _ hi
      rw [Nat.add_mul] at this
      omega
    exact ho.has _ (Array.getElem?_eq_getElem hl)
theorem OwR.has0 [Inhabited α] {w : World} {A : Option Addr} {t : TypeId} {cap i sz : Nat} {xs : List α} {a : Addr} (h : OwR w A t E cap xs) (hs : E.sz = sz) (hi : i < xs.length) (hA : A = some a) (hz : 0 < sz) : Has w (a.add (i * sz)) := by
  subst hs; exact h.has_ (j := 0) hi hA hz
theorem OwR.hasj [Inhabited α] {w : World} {A : Option Addr} {t : TypeId} {cap i sz j : Nat} {xs : List α} {a : Addr} (h : OwR w A t E cap xs) (hs : E.sz = sz) (hi : i < xs.length) (hA : A = some a) (hj : j < sz) : Has w ((a.add (i * sz)).add j) := by
  subst hs; rw [add_add]; exact h.has_ hi hA hj
theorem OwR.set_ [Inhabited α] {w w1 : World} {A : Option Addr} {t : TypeId} {cap i j : Nat} {xs : List α} {a : Addr} {v : Value} {x : α} (h : OwR w A t E cap xs) (hi : i < xs.length) (hA : A = some a) (hj : j < E.sz) (hw : w1 = w.setCell (a.add (i * E.sz + j)) v)
    (e : E.cells i x = (E.cells i (el xs i)).set j v) : OwR w1 A t E cap (xs.set i x) := by
  rcases h with ⟨_, _, rfl⟩ | ⟨g, e', hc, ho⟩
  · simp at hi
  · rw [hA] at e'
    cases e'
    rw [add_plain, Nat.zero_add] at hw
    refine .inr ⟨g, hA, by simpa using hc, ?_⟩
    have hl : i * E.sz + j < (rowc E 0 xs).toArray.size := by
      rw [List.size_toArray, rowc_len]
      have : (i + 1) * E.sz ≤ xs.length * E.sz := Nat.mul_le_mul_right _ hi
      rw [Nat.add_mul] at this
      omega
    refine ho.setAt _ hw (by simpa [Nat.blt_eq] using hl) ?_
    rw [List.setIfInBounds_toArray, rowc_set xs 0 i j v x hi hj (by rw [Nat.zero_add]; exact e)]
/-- A block known whole, told as a row. -/
theorem OwR.of_bk {w : World} {b cap : Nat} {cs : Array Value} {t : TypeId} {xs : List α} (h : Bk w b cs t) (e : cs = (rowc E 0 xs).toArray) (hn : xs.length = cap) (hc : Nat.ble cap 140737488355328 = true) : OwR w (some ⟨b, 0, none⟩) t E cap xs := by
  refine .inr ⟨b, rfl, Nat.le_of_eq hn, ?_⟩
  subst e
  exact Own.of_bk h (by rw [List.size_toArray, rowc_len, hn]) hc
/-! ### make, append, cut -/
theorem Src.of_row {P : Program} {w : World} {tx e' : TypeId} {B : Option Addr} {cb : Nat} {ys : List α} (hk : P.underlying tx = some (.slice e')) (h : RwR w B E cb ys) : Src P E.sz tx (.slice B ys.length cb) ys.length (rowc E 0 ys) w := by
  cases B with
  | none =>
    have : ys = [] := by
      rcases h.2.2 with h | ⟨a, e, _⟩
      · exact h
      · cases e
    subst this
    exact Src.ofNil w hk _
  | some a =>
    refine Src.ofSlice w hk a _ _ _ (by rw [rowc_len]) (fun j u hj => ?_) (rowc_plain ys 0)
    rcases h.2.2 with rfl | ⟨a', e, k⟩
    · simp [rowc] at hj
    · cases e
      exact k j u (by simpa using hj)
def Uni (E : IEnc α) : Prop := ∀ i j a, E.cells i a = E.cells j a
theorem uniI {k : IntKind} : Uni (eI k) := fun _ _ _ => rfl
theorem rowc_uni (h : Uni E) : ∀ (xs : List α) (i j : Nat), rowc E i xs = rowc E j xs := by
  intro xs
  induction xs with
  | nil => exact fun _ _ => rfl
  | cons x xs ih => intro i j; simp only [rowc]; rw [h i j, ih (i + 1) (j + 1)]
theorem rowc_uapp (h : Uni E) (xs ys : List α) : rowc E 0 (xs ++ ys) = rowc E 0 xs ++ rowc E 0 ys := by rw [rowc_app, rowc_uni h ys _ 0]
theorem make_row {P : Program} {w : World} {T t : TypeId} {z : Value} {bytes : Nat} {kl kc : IntKind} {l c : Int} {x : α} {Q : Prop} (ht : P.underlying T = some (.slice t)) (hi : (P.info? t).map (fun i => (i.zero, i.size, i.bytes)) = some (some z, E.sz, bytes)) (hz : ∀ i, z.cells.toList = E.cells i x) (hp : 0 < E.sz)
    (h0 : 0 ≤ l) (h1 : l ≤ c) (hb : c * (bytes : Int) ≤ 140737488355328) (hc : c ≤ 140737488355328)
    (K : ∀ (g : Nat) (w1 : World), (Instr.makeSlice T (.int kl l) (.int kc c)).run P w = .ok (.slice (some ⟨g, 0, none⟩) (List.replicate l.toNat x).length c.toNat) w1 → g = w.heap.size → OwR w1 (some ⟨g, 0, none⟩) t E c.toNat (List.replicate l.toNat x) → Fr [] w w1 → Q) : Q := by
  obtain ⟨i0, hi0, hzz⟩ := Option.map_eq_some_iff.1 hi
  simp only [Prod.mk.injEq] at hzz
  obtain ⟨hz0, hz1, hz2⟩ := hzz
  have hr := run_make (P := P) w T t i0 z ht hi0 hz0 kl kc l c h0 h1 (by rw [hz2, Int.mul_comm]; omega) (by omega)
  refine K w.heap.size _ (by rw [List.length_replicate]; exact hr) rfl (.inr ⟨_, rfl, by rw [List.length_replicate]; omega, ?_⟩) (Fr.step_alloc rfl)
  have hzl : z.cells.size = E.sz := by rw [← Array.length_toList, hz 0, E.len]
  rw [hz1]
  have hm : ∀ n m, n ≤ m → (madeCells z.cells (m * E.sz)).toList.take (n * E.sz) = rowc E 0 (List.replicate n x) := by
    intro n m hnm
    apply List.ext_getElem?
    intro q
    by_cases hq : q < n * E.sz
    · have hq2 : q < m * E.sz := Nat.lt_of_lt_of_le hq (Nat.mul_le_mul_right _ hnm)
      have hmod : q % E.sz < E.sz := Nat.mod_lt _ hp
      have hdiv : q / E.sz < n := (Nat.div_lt_iff_lt_mul hp).2 hq
      rw [List.getElem?_take, if_pos hq]
      have e1 : q = (q / E.sz) * E.sz + q % E.sz := by rw [Nat.mul_comm]; exact (Nat.div_add_mod q E.sz).symm
      have e2 : (rowc E 0 (List.replicate n x))[q]? = (E.cells 0 x)[q % E.sz]? := by
        have gen : ∀ (n k d r : Nat), d < n → r < E.sz → (rowc E k (List.replicate n x))[d * E.sz + r]? = (E.cells 0 x)[r]? := by
          intro n
          induction n with
          | zero => intro k d r hd; omega
          | succ n ih =>
            intro k d r hd hr
            simp only [List.replicate_succ, rowc]
            cases d with
            | zero =>
              rw [Nat.zero_mul, Nat.zero_add, List.getElem?_append_left (by rw [E.len]; exact hr), ← hz k, hz 0]
            | succ d =>
              rw [List.getElem?_append_right (by rw [E.len, Nat.add_mul]; omega), E.len, show (d + 1) * E.sz + r - E.sz = d * E.sz + r by rw [Nat.add_mul]; omega]
              exact ih (k + 1) d r (by omega) hr
        conv => lhs; rw [e1]
        exact gen n 0 _ _ hdiv hmod
      rw [e2, ← hz 0]
      unfold madeCells
      simp only [Array.toList_map, Array.toList_range]
      rw [List.getElem?_map, List.getElem?_range hq2]
      simp only [Option.map_some]
      rw [hzl, Array.getElem?_toList, Array.getElem?_eq_getElem (by rw [hzl]; exact hmod)]
      rw [getElem!_pos _ _ (by rw [hzl]; exact hmod)]
    · rw [List.getElem?_eq_none (by rw [List.length_take]; omega), List.getElem?_eq_none (by rw [rowc_len, List.length_replicate]; omega)]
  have hlc : l.toNat ≤ c.toNat := by omega
  refine ⟨((madeCells z.cells (c.toNat * E.sz)).toList.drop (l.toNat * E.sz)).toArray, ?_, ?_, by unfold maxLen; omega⟩
  · have e : madeCells z.cells (c.toNat * E.sz) = (rowc E 0 (List.replicate l.toNat x)).toArray ++ ((madeCells z.cells (c.toNat * E.sz)).toList.drop (l.toNat * E.sz)).toArray := by
      apply Array.toList_inj.1
      rw [Array.toList_append]
      rw [← hm _ _ hlc]
      exact (List.take_append_drop _ _).symm
    have := Bk.new w (madeCells z.cells (c.toNat * E.sz)) t
    rw [← e]
    exact this
  · have : l.toNat * E.sz ≤ c.toNat * E.sz := Nat.mul_le_mul_right _ hlc
    simp only [Array.size_append, List.size_toArray, rowc_len, List.length_replicate, List.length_drop, Array.length_toList, size_madeCells]
    omega
theorem rowc_drop : ∀ (xs : List α) (l k : Nat), (rowc E k xs).drop (l * E.sz) = rowc E (k + l) (xs.drop l) := by
  intro xs
  induction xs with
  | nil => intro l k; simp [rowc]
  | cons x xs ih =>
    intro l k
    cases l with
    | zero => simp
    | succ l =>
      simp only [rowc, List.drop_succ_cons]
      rw [List.drop_append, List.drop_eq_nil_of_le (by rw [E.len, Nat.add_mul]; omega), E.len, show (l + 1) * E.sz - E.sz = l * E.sz by rw [Nat.add_mul]; omega, ih, List.nil_append]
      congr 1; omega
theorem rowc_take (xs : List α) (l k : Nat) : rowc E k (xs.take l) <+: rowc E k xs := by
  conv => rhs; rw [← List.take_append_drop l xs]
  rw [rowc_app]
  exact List.prefix_append _ _
end
/-! ### copy -/
theorem Bk.lit {w : World} {b : Nat} {cs : Array Value} {t : TypeId} (h : Bk w b cs t) {cs' : Array Value} (e : cs = cs') : Bk w b cs' t := e ▸ h
def bytesOf (s : ByteArray) : List Int := s.data.toList.map (fun b => (b.toNat : Int))
end Go.Proofs.YtfmifminaldmhaaDoor
