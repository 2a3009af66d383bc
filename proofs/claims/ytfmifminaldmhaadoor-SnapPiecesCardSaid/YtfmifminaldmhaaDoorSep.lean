/- Memory as a list of parts that lie apart: what each part holds, what operations do to it. No program in sight. -/
import Derived.Test.YtfmifminaldmhaaDoorKin
set_option linter.unusedVariables false
set_option linter.unusedSimpArgs false
namespace Go.Proofs.YtfmifminaldmhaaDoor
open Go.RowKit

/-! ### Parts -/
structure Agree (F : Nat → Prop) (w w' : World) : Prop where
  os : w'.os = w.os
  tape : w'.tape = w.tape
  output : w'.output = w.output
  size : w.heap.size ≤ w'.heap.size
  block : ∀ b, F b → w'.heap[b]? = w.heap[b]?
structure Atom where
  P : World → (Nat → Prop) → Prop
  mv : ∀ {w w' : World} {F : Nat → Prop}, P w F → Agree F w w' → P w' F
  lt : ∀ {w : World} {F : Nat → Prop}, P w F → ∀ b, F b → b < w.heap.size
def nthA : List Atom → Nat → Option Atom
  | [], _ => none
  | a :: _, 0 => some a
  | _ :: L, n + 1 => nthA L n
def setA : List Atom → Nat → Atom → List Atom
  | [], _, _ => []
  | _ :: L, 0, x => x :: L
  | a :: L, n + 1, x => a :: setA L n x
def dropA : Nat → List Atom → List Atom
  | 0, L => L
  | _ + 1, [] => []
  | n + 1, _ :: L => dropA n L
def selA (L : List Atom) (T : List Atom) : List Nat → List Atom
  | [] => T
  | i :: is => match nthA L i with | some a => a :: selA L T is | none => selA L T is
def Holds (w : World) (L : List Atom) : Prop :=
  ∃ Fs : Nat → Nat → Prop, (∀ i a, nthA L i = some a → a.P w (Fs i)) ∧ ∀ i j a a' b, nthA L i = some a → nthA L j = some a' → i ≠ j → Fs i b → ¬ Fs j b

theorem Agree.refl (F : Nat → Prop) (w : World) : Agree F w w := ⟨rfl, rfl, rfl, Nat.le_refl _, fun _ _ => rfl⟩
theorem Agree.trans {F : Nat → Prop} {a b c : World} (h : Agree F a b) (k : Agree F b c) : Agree F a c :=
  ⟨k.os.trans h.os, k.tape.trans h.tape, k.output.trans h.output, Nat.le_trans h.size k.size, fun i hi => (k.block i hi).trans (h.block i hi)⟩
theorem Agree.mono {F G : Nat → Prop} {a b : World} (h : Agree F a b) (k : ∀ x, G x → F x) : Agree G a b := ⟨h.os, h.tape, h.output, h.size, fun i hi => h.block i (k i hi)⟩
theorem Agree.alloc {F : Nat → Prop} {w w1 : World} {o : Obj} (hF : ∀ b, F b → b < w.heap.size) (hw : w1 = w.alloc o) : Agree F w w1 := by
  subst hw; exact ⟨rfl, rfl, rfl, by simp, fun b hb => Below.heap_alloc _ _ _ (hF b hb)⟩
theorem Agree.drew {F : Nat → Prop} {w w1 : World} (hw : w1 = w.drew) : Agree F w w1 := by subst hw; exact ⟨rfl, rfl, rfl, Nat.le_refl _, fun _ _ => rfl⟩
theorem Agree.set {F : Nat → Prop} {w w1 : World} {a : Addr} {v : Value} (hF : ¬ F a.block) (hw : w1 = w.setCell a v) : Agree F w w1 := by
  subst hw; exact ⟨rfl, rfl, rfl, by simp [World.setCell], fun b hb => Below.heap_setCell _ _ _ _ (fun e => hF (e ▸ hb))⟩
theorem Agree.setRow {F : Nat → Prop} {w w1 : World} {a : Addr} {vs : List Value} (hF : ¬ F a.block) (hw : w1 = setRow w a 0 vs) : Agree F w w1 := by
  subst hw
  obtain ⟨h1, h2, h3, h4⟩ := setRow_rest (ad := a) vs 0 w
  exact ⟨h1, h2, h3, Nat.le_of_eq h4.symm, fun b hb => setRow_block _ _ _ _ (fun e => hF (e ▸ hb))⟩
theorem Agree.fr {S : List Nat} {F : Nat → Prop} {w w1 : World} (r : Fr S w w1) (hF : ∀ b, F b → b < w.heap.size ∧ b ∉ S) : Agree F w w1 :=
  ⟨r.os, r.tape, r.output, r.size, fun b hb => r.block b (hF b hb).1 (hF b hb).2⟩

theorem nthA_setA : ∀ (L : List Atom) (i j : Nat) (x a : Atom), nthA (setA L i x) j = some a → (j = i ∧ a = x ∧ ∃ y, nthA L i = some y) ∨ (j ≠ i ∧ nthA L j = some a) := by
  intro L
  induction L with
  | nil => intro i j x a h; simp [setA, nthA] at h
  | cons y L ih =>
    intro i j x a h
    cases i with
    | zero =>
      cases j with
      | zero => simp [setA, nthA] at h; exact .inl ⟨rfl, h.symm, y, rfl⟩
      | succ j => exact .inr ⟨by simp, h⟩
    | succ i =>
      cases j with
      | zero => exact .inr ⟨by simp, h⟩
      | succ j =>
        rcases ih i j x a h with ⟨h1, h2, h3⟩ | ⟨h1, h2⟩
        · exact .inl ⟨by omega, h2, h3⟩
        · exact .inr ⟨by omega, h2⟩
theorem nthA_dropA : ∀ (n : Nat) (L : List Atom) (j : Nat), nthA (dropA n L) j = nthA L (n + j) := by
  intro n
  induction n with
  | zero => intro L j; simp [dropA]
  | succ n ih =>
    intro L j
    cases L with
    | nil => simp [dropA, nthA]
    | cons a L => rw [show n + 1 + j = (n + j) + 1 by omega]; exact ih L j

/-- One part turns into another. -/
theorem Holds.upd {w w' : World} {L : List Atom} (i : Nat) {a a' : Atom} (h : Holds w L) (e : nthA L i = some a)
    (k : ∀ F : Nat → Prop, a.P w F → (∀ b, F b → b < w.heap.size) → ∃ F' : Nat → Prop, a'.P w' F' ∧ (∀ b, F' b → F b ∨ w.heap.size ≤ b) ∧ ∀ G : Nat → Prop, (∀ b, G b → ¬ F b ∧ b < w.heap.size) → Agree G w w') : Holds w' (setA L i a') := by
  obtain ⟨Fs, h1, h2⟩ := h
  obtain ⟨F', hF, hsub, hag⟩ := k (Fs i) (h1 i a e) (a.lt (h1 i a e))
  obtain ⟨Gs, f3, f2⟩ : ∃ Gs : Nat → Nat → Prop, Gs i = F' ∧ ∀ j, j ≠ i → Gs j = Fs j := ⟨fun j => if j = i then F' else Fs j, by simp, fun j hj => by simp [hj]⟩
  refine ⟨Gs, fun j x hx => ?_, fun j l x y b hx hy hne hj hl => ?_⟩
  · rcases nthA_setA L i j a' x hx with ⟨rfl, rfl, _⟩ | ⟨hj, hx'⟩
    · rw [f3]; exact hF
    · rw [f2 j hj]
      exact x.mv (h1 j x hx') (hag _ (fun b hb => ⟨fun hi => h2 j i x a b hx' e hj hb hi, x.lt (h1 j x hx') b hb⟩))
  · rcases nthA_setA L i j a' x hx with ⟨rfl, _, _⟩ | ⟨hji, hx'⟩
    · rcases nthA_setA L j l a' y hy with ⟨rfl, _, _⟩ | ⟨hli, hy'⟩
      · exact hne rfl
      · rw [f3] at hj
        rw [f2 l hli] at hl
        rcases hsub b hj with hb | hb
        · exact h2 j l a y b e hy' hne hb hl
        · exact absurd (y.lt (h1 l y hy') b hl) (Nat.not_lt.2 hb)
    · rw [f2 j hji] at hj
      rcases nthA_setA L i l a' y hy with ⟨rfl, _, _⟩ | ⟨hli, hy'⟩
      · rw [f3] at hl
        rcases hsub b hl with hb | hb
        · exact h2 j l x a b hx' e hne hj hb
        · exact absurd (x.lt (h1 j x hx') b hj) (Nat.not_lt.2 hb)
      · rw [f2 l hli] at hl
        exact h2 j l x y b hx' hy' hne hj hl
/-- A new part. -/
theorem Holds.add {w w' : World} {L : List Atom} {a : Atom} (h : Holds w L) {F' : Nat → Prop} (hF : a.P w' F') (hsub : ∀ b, F' b → w.heap.size ≤ b) (hag : ∀ G : Nat → Prop, (∀ b, G b → b < w.heap.size) → Agree G w w') : Holds w' (a :: L) := by
  obtain ⟨Fs, h1, h2⟩ := h
  refine ⟨fun j => match j with | 0 => F' | j + 1 => Fs j, fun j x hx => ?_, fun j l x y b hx hy hne hj hl => ?_⟩
  · cases j with
    | zero => simp [nthA] at hx; subst hx; exact hF
    | succ j => exact x.mv (h1 j x hx) (hag _ (x.lt (h1 j x hx)))
  · cases j with
    | zero =>
      cases l with
      | zero => exact hne rfl
      | succ l => exact absurd (y.lt (h1 l y hy) b hl) (Nat.not_lt.2 (hsub b hj))
    | succ j =>
      cases l with
      | zero => exact absurd (x.lt (h1 j x hx) b hj) (Nat.not_lt.2 (hsub b hl))
      | succ l => exact h2 j l x y b hx hy (by omega) hj hl
theorem Holds.ag {w w' : World} {L : List Atom} (h : Holds w L) (hag : ∀ G : Nat → Prop, (∀ b, G b → b < w.heap.size) → Agree G w w') : Holds w' L := by
  obtain ⟨Fs, h1, h2⟩ := h
  exact ⟨Fs, fun j x hx => x.mv (h1 j x hx) (hag _ (x.lt (h1 j x hx))), h2⟩
theorem Holds.nth {w : World} {L : List Atom} (h : Holds w L) (i : Nat) {a : Atom} (e : nthA L i = some a) : ∃ F, a.P w F := by
  obtain ⟨Fs, h1, _⟩ := h
  exact ⟨_, h1 i a e⟩
theorem Holds.map {w : World} {L L' : List Atom} (σ : Nat → Nat) (hi : ∀ i j a a', nthA L' i = some a → nthA L' j = some a' → σ i = σ j → i = j) (hn : ∀ i a, nthA L' i = some a → nthA L (σ i) = some a) (h : Holds w L) : Holds w L' := by
  obtain ⟨Fs, h1, h2⟩ := h
  exact ⟨fun i => Fs (σ i), fun i a e => h1 _ a (hn i a e), fun i j a a' b hx hy hne => h2 _ _ a a' b (hn i a hx) (hn j a' hy) (fun e => hne (hi i j a a' hx hy e))⟩
theorem Holds.drop {w : World} {L : List Atom} (n : Nat) (h : Holds w L) : Holds w (dropA n L) :=
  h.map (fun i => n + i) (fun i j _ _ _ _ e => by omega) (fun i a e => by rw [nthA_dropA] at e; exact e)
def okSel (k : Nat) : List Nat → Bool
  | [] => true
  | i :: is => Nat.blt i k && !(is.elem i) && okSel k is
def sigA (k : Nat) : List Nat → Nat → Nat
  | [], j => k + j
  | i :: _, 0 => i
  | _ :: is, j + 1 => sigA k is j
theorem sigA_lt_or {k : Nat} : ∀ (is : List Nat) (j : Nat), okSel k is = true → (∃ i ∈ is, sigA k is j = i) ∨ (is.length ≤ j ∧ sigA k is j = k + (j - is.length)) := by
  intro is
  induction is with
  | nil => intro j _; exact .inr ⟨Nat.zero_le _, rfl⟩
  | cons i is ih =>
    intro j h
    simp only [okSel, Bool.and_eq_true] at h
    cases j with
    | zero => exact .inl ⟨i, by simp, rfl⟩
    | succ j =>
      rcases ih j h.2 with ⟨x, hx, e⟩ | ⟨h1, e⟩
      · exact .inl ⟨x, List.mem_cons_of_mem _ hx, e⟩
      · refine .inr ⟨by simpa using h1, ?_⟩
        rw [show sigA k (i :: is) (j + 1) = sigA k is j from rfl, e]
        simp
theorem okSel_lt {k : Nat} : ∀ {is : List Nat} {i : Nat}, okSel k is = true → i ∈ is → i < k := by
  intro is
  induction is with
  | nil => intro i _ h; cases h
  | cons x is ih =>
    intro i h hm
    simp only [okSel, Bool.and_eq_true, Nat.blt_eq] at h
    rcases List.mem_cons.1 hm with rfl | hm
    · exact h.1.1
    · exact ih h.2 hm
theorem sigA_inj {k : Nat} : ∀ (is : List Nat) (i j : Nat), okSel k is = true → sigA k is i = sigA k is j → i = j := by
  intro is
  induction is with
  | nil => intro i j _ e; simp [sigA] at e; exact e
  | cons x is ih =>
    intro i j h e
    have h0 := h
    simp only [okSel, Bool.and_eq_true, Nat.blt_eq] at h
    have hx : ∀ q, sigA k is q = x → False := by
      intro q hq
      rcases sigA_lt_or is q h.2 with ⟨y, hy, e'⟩ | ⟨_, e'⟩
      · have : y = x := e'.symm.trans hq
        subst this
        have hb := h.1.2
        simp at hb
        exact hb hy
      · have := h.1.1
        omega
    cases i with
    | zero =>
      cases j with
      | zero => rfl
      | succ j => exact (hx j e.symm).elim
    | succ i =>
      cases j with
      | zero => exact (hx i e).elim
      | succ j => rw [ih i j h.2 e]
theorem nthA_selA {k : Nat} (L : List Atom) : ∀ (is : List Nat) (j : Nat) (a : Atom), (∀ i ∈ is, ∃ y, nthA L i = some y) → nthA (selA L (dropA k L) is) j = some a → nthA L (sigA k is j) = some a := by
  intro is
  induction is with
  | nil => intro j a _ h; rw [show selA L (dropA k L) [] = dropA k L from rfl, nthA_dropA] at h; exact h
  | cons i is ih =>
    intro j a hs h
    obtain ⟨y, hy⟩ := hs i (by simp)
    have e : selA L (dropA k L) (i :: is) = y :: selA L (dropA k L) is := by simp [selA, hy]
    rw [e] at h
    cases j with
    | zero => simp [nthA] at h; subst h; exact hy
    | succ j => exact ih j a (fun x hx => hs x (List.mem_cons_of_mem _ hx)) h
/-- Parts in another order; some let go: of the first k those that are named. -/
theorem Holds.arr {w : World} {L : List Atom} (k : Nat) (is : List Nat) (h : Holds w L) (ok : okSel k is = true) (hs : ∀ i, i < k → (nthA L i).isSome = true) : Holds w (selA L (dropA k L) is) :=
  h.map (sigA k is) (fun i j _ _ _ _ e => sigA_inj is i j ok e) (fun i a e => nthA_selA L is i a (fun x hx => Option.isSome_iff_exists.1 (hs x (okSel_lt ok hx))) e)
def isK : Nat → List Atom → Bool
  | 0, _ => true
  | _ + 1, [] => false
  | n + 1, _ :: L => isK n L
theorem isK_some : ∀ (k : Nat) (L : List Atom), isK k L = true → ∀ i, i < k → (nthA L i).isSome = true := by
  intro k
  induction k with
  | zero => intro L _ i hi; omega
  | succ k ih =>
    intro L h i hi
    cases L with
    | nil => simp [isK] at h
    | cons a L =>
      cases i with
      | zero => rfl
      | succ i => exact ih L h i (by omega)
theorem Holds.arrK {w : World} {L : List Atom} (k : Nat) (is : List Nat) (h : Holds w L) (ok : okSel k is = true) (hs : isK k L = true) : Holds w (selA L (dropA k L) is) := h.arr k is ok (isK_some k L hs)
/-! ### Kinds of parts -/
/-- Block b holds just these cells. -/
def blk' (b : Nat) (cs : List Value) (t : TypeId) : Atom where
  P w F := Bk w b cs.toArray t ∧ ∀ x, F x ↔ x = b
  mv := fun h r => ⟨(r.block b ((h.2 b).2 rfl)).trans h.1, h.2⟩
  lt := fun h x hx => by rw [(h.2 x).1 hx]; exact h.1.lt
/-- All that stood when the call began is as it was. -/
def old (w0 : World) : Atom where
  P w F := Below w0.heap.size w0 w ∧ ∀ x, F x ↔ x < w0.heap.size
  mv := fun h r => ⟨⟨r.os.trans h.1.os, r.tape.trans h.1.tape, r.output.trans h.1.output, Nat.le_trans h.1.size r.size, fun k hk => (r.block k ((h.2 k).2 hk)).trans (h.1.block k hk)⟩, h.2⟩
  lt := fun h x hx => Nat.lt_of_lt_of_le ((h.2 x).1 hx) h.1.size
theorem old_start (w : World) : Holds w [old w] :=
  ⟨fun _ b => b < w.heap.size, fun i a e => by
    cases i with
    | zero => simp [nthA] at e; subst e; exact ⟨Below.refl _ _, fun _ => Iff.rfl⟩
    | succ i => simp [nthA] at e, fun i j a a' b hi hj hne => by
    cases i with
    | zero => cases j with
      | zero => exact absurd rfl hne
      | succ j => simp [nthA] at hj
    | succ i => simp [nthA] at hi⟩
theorem Holds.old {w w0 : World} {L : List Atom} (h : Holds w L) (i : Nat) (e : nthA L i = some (old w0)) : Below w0.heap.size w0 w := (h.nth i e).choose_spec.1
theorem Holds.bk {w : World} {L : List Atom} (h : Holds w L) (i : Nat) {b : Nat} {cs : List Value} {t : TypeId} (e : nthA L i = some (blk' b cs t)) : Bk w b cs.toArray t := (h.nth i e).choose_spec.1
def nthV : List Value → Nat → Option Value
  | [], _ => none
  | v :: _, 0 => some v
  | _ :: l, n + 1 => nthV l n
def setV : List Value → Nat → Value → List Value
  | [], _, _ => []
  | _ :: l, 0, x => x :: l
  | v :: l, n + 1, x => v :: setV l n x
def dropV : Nat → List Value → List Value
  | 0, l => l
  | _ + 1, [] => []
  | n + 1, _ :: l => dropV n l
def headV : List Value → List Value → Prop
  | [], _ => True
  | _ :: _, [] => False
  | x :: xs, y :: ys => x = y ∧ headV xs ys
def setsV (cs : List Value) (o : Nat) : List Value → List Value
  | [] => cs
  | v :: r => setsV (setV cs o v) (o + 1) r
theorem nthV_eq : ∀ (l : List Value) (n : Nat), nthV l n = l[n]? := by
  intro l
  induction l with
  | nil => intro n; simp [nthV]
  | cons v l ih => intro n; cases n with
    | zero => simp [nthV]
    | succ n => simp [nthV, ih]
theorem setV_eq : ∀ (l : List Value) (n : Nat) (x : Value), setV l n x = l.set n x := by
  intro l
  induction l with
  | nil => intro n x; simp [setV]
  | cons v l ih => intro n x; cases n with
    | zero => simp [setV]
    | succ n => simp [setV, ih]
theorem dropV_eq : ∀ (n : Nat) (l : List Value), dropV n l = l.drop n := by
  intro n
  induction n with
  | zero => intro l; simp [dropV]
  | succ n ih => intro l; cases l with
    | nil => simp [dropV]
    | cons v l => simp [dropV, ih]
theorem headV_get : ∀ (xs ys : List Value) (i : Nat) (v : Value), headV xs ys → xs[i]? = some v → ys[i]? = some v := by
  intro xs
  induction xs with
  | nil => intro ys i v _ h; simp at h
  | cons x xs ih =>
    intro ys i v h e
    cases ys with
    | nil => exact h.elim
    | cons y ys =>
      obtain ⟨rfl, h⟩ := h
      cases i with
      | zero => exact e
      | succ i => exact ih ys i v h e
theorem Holds.cellB {w : World} {L : List Atom} (i o : Nat) {b : Nat} {cs : List Value} {t : TypeId} {v : Value} (h : Holds w L) (e : nthA L i = some (blk' b cs t)) (ev : nthV cs o = some v) : w.cell? ⟨b, o, none⟩ = some v :=
  (h.bk i e).cell o (by rw [List.getElem?_toArray, ← nthV_eq]; exact ev)
theorem Holds.hasB {w : World} {L : List Atom} (i o : Nat) {b : Nat} {cs : List Value} {t : TypeId} {v : Value} (h : Holds w L) (e : nthA L i = some (blk' b cs t)) (ev : nthV cs o = some v) : Has w ⟨b, o, none⟩ :=
  (h.bk i e).has o (v := v) (by rw [List.getElem?_toArray, ← nthV_eq]; exact ev)
theorem Holds.rowB {w : World} {L : List Atom} (i o : Nat) {b : Nat} {cs xs : List Value} {t : TypeId} (h : Holds w L) (e : nthA L i = some (blk' b cs t)) (ev : headV xs (dropV o cs)) : RowAt w ⟨b, o, none⟩ xs.toArray := by
  intro j v hv
  rw [add_plain]
  refine (h.bk i e).cell (o + j) ?_
  rw [List.getElem?_toArray] at hv ⊢
  have := headV_get xs _ j v ev hv
  rwa [dropV_eq, List.getElem?_drop] at this
theorem Holds.hasRowB {w : World} {L : List Atom} (i o : Nat) {b : Nat} {cs : List Value} {t : TypeId} (vs : List Value) (h : Holds w L) (e : nthA L i = some (blk' b cs t)) (hl : Nat.ble (o + vs.length) cs.length = true) (hp : vs.all Value.oneCell' = true) : HasRow w ⟨b, o, none⟩ 0 vs :=
  (h.bk i e).hasRow o vs (by simpa using hl) hp
theorem Holds.draw {w w1 : World} {L : List Atom} (h : Holds w L) (hw : w1 = w.drew) : Holds w1 L := h.ag (fun _ _ => Agree.drew hw)
theorem Holds.new {w w1 : World} {L : List Atom} {b : Nat} {cs : List Value} {t : TypeId} (h : Holds w L) (hb : b = w.heap.size) (hw : w1 = w.alloc (.cells cs.toArray t)) : Holds w1 (blk' b cs t :: L) :=
  h.add (F' := fun x => x = b) ⟨Bk.newAt hb hw, fun _ => Iff.rfl⟩ (fun x hx => by omega) (fun G hG => Agree.alloc hG hw)
theorem Holds.set {w w1 : World} {L : List Atom} (i : Nat) {b : Nat} {cs cs' : List Value} {t : TypeId} {v : Value} (o : Nat) (h : Holds w L) (e : nthA L i = some (blk' b cs t)) (hw : w1 = w.setCell ⟨b, o, none⟩ v) (ec : setV cs o v = cs') : Holds w1 (setA L i (blk' b cs' t)) :=
  h.upd i e (fun F hF _ => ⟨F, ⟨hF.1.setAt o hw (by rw [← ec, setV_eq, List.setIfInBounds_toArray]), hF.2⟩, fun x hx => .inl hx, fun G hG => Agree.set (fun hg => (hG _ hg).1 ((hF.2 b).2 rfl)) hw⟩)
theorem setsV_eq : ∀ (vs cs : List Value) (o : Nat), (setsV cs o vs).toArray = setArr cs.toArray o vs := by
  intro vs
  induction vs with
  | nil => intro cs o; rfl
  | cons v r ih => intro cs o; simp only [setsV, setArr]; rw [ih, setV_eq, List.setIfInBounds_toArray]
theorem Holds.setRow {w w1 : World} {L : List Atom} (i : Nat) {b : Nat} {cs cs' : List Value} {t : TypeId} {vs : List Value} (o : Nat) (h : Holds w L) (e : nthA L i = some (blk' b cs t)) (hw : w1 = Proofs.YtfmifminaldmhaaDoor.setRow w ⟨b, o, none⟩ 0 vs) (ec : setsV cs o vs = cs') : Holds w1 (setA L i (blk' b cs' t)) :=
  h.upd i e (fun F hF _ => ⟨F, ⟨hF.1.setRowAt o hw (by rw [← ec, setsV_eq]), hF.2⟩, fun x hx => .inl hx, fun G hG => Agree.setRow (fun hg => (hG _ hg).1 ((hF.2 b).2 rfl)) hw⟩)
/-! ### Rows of the call's own, wherever in their block they begin -/
section
variable {α : Type} {E : IEnc α}
def OwS (w : World) (A : Option Addr) (t : TypeId) (E : IEnc α) (cap : Nat) (xs : List α) : Prop :=
  (A = none ∧ cap = 0 ∧ xs = []) ∨ ∃ g o pre rest, A = some ⟨g, o, none⟩ ∧ xs.length ≤ cap ∧ cap ≤ maxLen ∧ Bk w g (pre ++ (rowc E 0 xs).toArray ++ rest) t ∧ pre.size = o ∧ (cap - xs.length) * E.sz ≤ rest.size
theorem OwS.cap {w : World} {A : Option Addr} {t : TypeId} {cap : Nat} {xs : List α} (h : OwS w A t E cap xs) : xs.length ≤ cap := by
  rcases h with ⟨_, _, rfl⟩ | ⟨g, o, pre, rest, _, hc, _⟩
  · simp
  · exact hc
theorem OwS.ofR {w : World} {A : Option Addr} {t : TypeId} {cap : Nat} {xs : List α} (h : OwR w A t E cap xs) : OwS w A t E cap xs := by
  rcases h with h | ⟨g, hA, hc, rest, hb, hs, hm⟩
  · exact .inl h
  · refine .inr ⟨g, 0, #[], rest, hA, hc, hm, by simpa [Bk] using hb, rfl, ?_⟩
    simp only [Array.size_append, List.size_toArray, rowc_len] at hs
    rw [Nat.sub_mul]
    omega
theorem OwS.rw {w : World} {A : Option Addr} {t : TypeId} {cap : Nat} {xs : List α} (h : OwS w A t E cap xs) : RwR w A E cap xs := by
  rcases h with ⟨rfl, rfl, rfl⟩ | ⟨g, o, pre, rest, rfl, hc, hm, hb, ho, hr⟩
  · exact RwR.nil
  · refine ⟨hc, fun _ _ => trivial, .inr ⟨_, rfl, fun i v hv => ?_⟩⟩
    rw [add_plain]
    refine hb.cell (o + i) ?_
    have hi : i < (rowc E 0 xs).toArray.size := (Array.getElem?_eq_some_iff.1 hv).1
    rw [Array.getElem?_append_left (by simp only [Array.size_append]; omega), Array.getElem?_append_right (by omega), ho, Nat.add_sub_cancel_left]
    exact hv
def own' (A : Option Addr) (t : TypeId) (E : IEnc α) (cap : Nat) (xs : List α) : Atom where
  P w F := OwS w A t E cap xs ∧ ∀ x, F x ↔ x ∈ blk A
  mv := fun h r => ⟨h.1.imp id (fun ⟨g, o, pre, rest, hA, hc, hm, hb, ho, hr⟩ => ⟨g, o, pre, rest, hA, hc, hm, (r.block g ((h.2 g).2 (by rw [hA]; simp [blk]))).trans hb, ho, hr⟩), h.2⟩
  lt := fun h x hx => by
    have hx := (h.2 x).1 hx
    rcases h.1 with ⟨rfl, _⟩ | ⟨g, o, pre, rest, rfl, _, _, hb, _⟩
    · cases hx
    · have : x = g := by simpa [blk] using hx
      exact this ▸ hb.lt
theorem Holds.rw {w : World} {L : List Atom} (h : Holds w L) (i : Nat) {A : Option Addr} {t : TypeId} {cap : Nat} {xs : List α} (e : nthA L i = some (own' A t E cap xs)) : RwR w A E cap xs := (h.nth i e).choose_spec.1.rw
theorem Holds.ows {w : World} {L : List Atom} (h : Holds w L) (i : Nat) {A : Option Addr} {t : TypeId} {cap : Nat} {xs : List α} (e : nthA L i = some (own' A t E cap xs)) : OwS w A t E cap xs := (h.nth i e).choose_spec.1
theorem Holds.addNil {w : World} {L : List Atom} (h : Holds w L) (t : TypeId) (E : IEnc α) : Holds w (own' none t E 0 ([] : List α) :: L) :=
  h.add (F' := fun _ => False) ⟨.inl ⟨rfl, rfl, rfl⟩, fun x => by simp [blk]⟩ (fun _ h => h.elim) (fun _ _ => Agree.refl _ _)
theorem Holds.toOwn {w : World} {L : List Atom} (i : Nat) {b cap : Nat} {cs : List Value} {t : TypeId} (xs : List α) (h : Holds w L) (e : nthA L i = some (blk' b cs t)) (ec : cs = rowc E 0 xs) (hn : xs.length = cap) (hc : Nat.ble cap 140737488355328 = true) : Holds w (setA L i (own' (some ⟨b, 0, none⟩) t E cap xs)) :=
  h.upd i e (fun F hF _ => ⟨F, ⟨OwS.ofR (OwR.of_bk hF.1 (by rw [ec]) hn hc), fun x => by rw [hF.2]; simp [blk]⟩, fun x hx => .inl hx, fun G hG => Agree.refl _ _⟩)
/-! has, set -/
theorem OwS.bounds {w : World} {A : Option Addr} {t : TypeId} {cap : Nat} {xs : List α} (h : OwS w A t E cap xs) {i j : Nat} (hi : i < xs.length) (hj : j < E.sz) : ∃ g o pre rest, A = some ⟨g, o, none⟩ ∧ pre.size = o ∧ Bk w g (pre ++ (rowc E 0 xs).toArray ++ rest) t ∧ i * E.sz + j < (rowc E 0 xs).length := by
  rcases h with ⟨_, _, rfl⟩ | ⟨g, o, pre, rest, hA, hc, hm, hb, ho, hr⟩
  · simp at hi
  · refine ⟨g, o, pre, rest, hA, ho, hb, ?_⟩
    rw [rowc_len]
    have : (i + 1) * E.sz ≤ xs.length * E.sz := Nat.mul_le_mul_right _ hi
    rw [Nat.add_mul] at this
    omega
theorem OwS.has [Inhabited α] {w : World} {A : Option Addr} {t : TypeId} {cap i j : Nat} {xs : List α} {a : Addr} (h : OwS w A t E cap xs) (hi : i < xs.length) (hA : A = some a) (hj : j < E.sz) : Has w (a.add (i * E.sz + j)) := by
  obtain ⟨g, o, pre, rest, e, ho, hb, hl⟩ := h.bounds hi hj
  rw [hA] at e
  cases e
  rw [add_plain]
  exact ⟨⟨_, hb.cell _ (Array.getElem?_eq_getElem (by simp only [Array.size_append, List.size_toArray]; omega))⟩, hb.frozen _⟩
theorem OwS.has0 [Inhabited α] {w : World} {A : Option Addr} {t : TypeId} {cap i sz : Nat} {xs : List α} {a : Addr} (h : OwS w A t E cap xs) (hs : E.sz = sz) (hi : i < xs.length) (hA : A = some a) (hz : Nat.blt 0 sz = true) : Has w (a.add (i * sz)) := by
  subst hs; exact h.has (j := 0) hi hA (by simpa [Nat.blt_eq] using hz)
theorem OwS.hasj [Inhabited α] {w : World} {A : Option Addr} {t : TypeId} {cap i sz : Nat} {xs : List α} {a : Addr} (j : Nat) (h : OwS w A t E cap xs) (hs : E.sz = sz) (hi : i < xs.length) (hA : A = some a) (hj : Nat.blt j sz = true) : Has w ((a.add (i * sz)).add j) := by
  subst hs; rw [add_add]; exact h.has hi hA (by simpa [Nat.blt_eq] using hj)
theorem OwS.set_ [Inhabited α] {w w1 : World} {A : Option Addr} {t : TypeId} {cap i j : Nat} {xs : List α} {a : Addr} {v : Value} {x : α} (h : OwS w A t E cap xs) (hi : i < xs.length) (hA : A = some a) (hj : j < E.sz) (hw : w1 = w.setCell (a.add (i * E.sz + j)) v)
    (e : E.cells i x = (E.cells i (el xs i)).set j v) : OwS w1 A t E cap (xs.set i x) := by
  rcases h with ⟨_, _, rfl⟩ | ⟨g, o, pre, rest, hA', hc, hm, hb, ho, hr⟩
  · simp at hi
  · have hl : i * E.sz + j < (rowc E 0 xs).length := by
      rw [rowc_len]
      have : (i + 1) * E.sz ≤ xs.length * E.sz := Nat.mul_le_mul_right _ hi
      rw [Nat.add_mul] at this
      omega
    rw [hA] at hA'
    cases hA'
    rw [add_plain] at hw
    refine .inr ⟨g, o, pre, rest, hA, by simpa using hc, hm, ?_, ho, by simpa using hr⟩
    have h1 := hb.setAt (o + (i * E.sz + j)) hw rfl
    have e2 : (pre ++ (rowc E 0 xs).toArray ++ rest).setIfInBounds (o + (i * E.sz + j)) v = pre ++ (rowc E 0 (xs.set i x)).toArray ++ rest := by
      rw [← rowc_set xs 0 i j v x hi hj (by rw [Nat.zero_add]; exact e)]
      apply Array.toList_inj.1
      have hp : pre.toList.length = o := by rw [Array.length_toList, ho]
      simp only [Array.toList_setIfInBounds, Array.toList_append, List.append_assoc]
      rw [List.set_append_right _ _ (by omega), hp, Nat.add_sub_cancel_left, List.set_append_left _ _ (by simpa using hl)]
    rw [e2] at h1
    exact h1
theorem Holds.setEl [Inhabited α] {w w1 : World} {L : List Atom} (q : Nat) {A : Option Addr} {t : TypeId} {cap i sz : Nat} {xs : List α} {a : Addr} {v : Value} (x : α) (h : Holds w L) (en : nthA L q = some (own' A t E cap xs)) (hs : E.sz = sz) (hi : i < xs.length) (hA : A = some a) (hz : Nat.blt 0 sz = true) (hw : w1 = w.setCell (a.add (i * sz)) v)
    (e : E.cells i x = (E.cells i (el xs i)).set 0 v) : Holds w1 (setA L q (own' A t E cap (xs.set i x))) := by
  subst hs
  refine h.upd q en (fun F hF _ => ⟨F, ⟨hF.1.set_ (j := 0) hi hA (by simpa [Nat.blt_eq] using hz) hw e, hF.2⟩, fun _ hx => .inl hx, fun G hG => Agree.set (fun hg => (hG _ hg).1 ((hF.2 _).2 ?_)) hw⟩)
  rw [hA, addr_block]; simp [blk]
end
end Go.Proofs.YtfmifminaldmhaaDoor
