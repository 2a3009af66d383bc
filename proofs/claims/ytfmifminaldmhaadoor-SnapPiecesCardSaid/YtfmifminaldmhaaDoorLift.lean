/- What the printed walks lean on: encodings of elements, loops as plain functions, parts of answers. No program in sight. -/
import Derived.Test.YtfmifminaldmhaaDoorOps
import Derived.ChangeKeysEq
set_option linter.unusedVariables false
set_option linter.unusedSimpArgs false
namespace Go.Proofs.YtfmifminaldmhaaDoor
open Go.RowKit

/-! ### Encodings -/
def eStr : IEnc ByteArray := ⟨1, fun _ s => [.string s], fun _ _ => rfl, fun _ _ v h => by simp at h; subst h; rfl⟩
def eP {α β : Type} (E : IEnc α) (F : IEnc β) : IEnc (α × β) :=
  ⟨E.sz + F.sz, fun i a => E.cells i a.1 ++ F.cells i a.2, fun i a => by simp [E.len, F.len], fun i a v h => (List.mem_append.1 h).elim (E.plain _ _ _) (F.plain _ _ _)⟩
def cellsA {α : Type} [Inhabited α] (E : IEnc α) (i : Nat) (a : List α) : Nat → Nat → List Value
  | 0, _ => []
  | n + 1, k => E.cells i (el a k) ++ cellsA E i a n (k + 1)
theorem cellsA_len {α : Type} [Inhabited α] (E : IEnc α) (i : Nat) (a : List α) : ∀ n k, (cellsA E i a n k).length = n * E.sz := by
  intro n
  induction n with
  | zero => intro k; simp [cellsA]
  | succ n ih => intro k; simp [cellsA, E.len, ih, Nat.add_mul]; omega
theorem cellsA_plain {α : Type} [Inhabited α] (E : IEnc α) (i : Nat) (a : List α) : ∀ n k v, v ∈ cellsA E i a n k → v.oneCell' = true := by
  intro n
  induction n with
  | zero => intro k v h; cases h
  | succ n ih =>
    intro k v h
    rcases List.mem_append.1 h with h | h
    · exact E.plain _ _ _ h
    · exact ih _ _ h
def eA {α : Type} [Inhabited α] (n : Nat) (E : IEnc α) : IEnc (List α) := ⟨n * E.sz, fun i a => cellsA E i a n 0, fun i a => cellsA_len E i a n 0, fun i a v h => cellsA_plain E i a n 0 v h⟩
/-- A slice in a cell: where the i-th one lies, and its capacity, are told ahead. -/
def eSl {α : Type} (Ad : Nat → Option Addr) (Cp : Nat → Nat) : IEnc (List α) := ⟨1, fun i xs => [.slice (Ad i) xs.length (Cp i)], fun _ _ => rfl, fun _ _ v h => by simp at h; subst h; rfl⟩
/-- The first n of a list, one by one. -/
def fixl {α : Type} [Inhabited α] (xs : List α) : Nat → Nat → List α
  | 0, _ => []
  | n + 1, k => el xs k :: fixl xs n (k + 1)

/-! ### Answers -/
theorem name_e {α β : Type} {x : α} {f : α → β} {r : β} (Q : α → Prop) (H : bind1 x f = r) (k : ∀ v, f v = r → Q v) : Q x := k x H
theorem all_y {α : Type} {y : α} {Q : α → Prop} (h : Q y) : ∀ z, y = z → Q z := fun z e => e ▸ h
/-! ### Loops -/
theorem atC_it3 {P : Program} {root : Code} {p : List Nat} {B : Exit → Act → World → Prop} {a : Act} {w : World} {X Y ι : Type} {step : X → Option (X ⊕ Y)} {x : X} {y : Y} (A : X → ι → Act → Prop) (Hp : X → ι → World → Prop) (i : ι) (H : loop step x = some y) (hl : sub root p = .loop (loopOf (sub root p)))
    (ha : A x i a) (h0 : Hp x i w)
    (round : ∀ x i a w s, A x i a → Hp x i w → step x = some s → (∀ y', s = .inr y' → y = y') → atC P (loopOf (sub root p)) [] (Exit.then (fun a' w' => ∃ x' i', s = .inl x' ∧ A x' i' a' ∧ Hp x' i' w') (ctx P root p B)) a w) : atC P root p B a w := by
  refine atC_it (step := step) H hl (fun x a w => ∃ i, A x i a ∧ Hp x i w) ⟨i, ha, h0⟩ (fun x a w s hI hs hy => ?_)
  obtain ⟨i, hA, h⟩ := hI
  have := round x i a w s hA h hs (fun y' e => (hy y' e).symm)
  unfold atC at this ⊢
  rw [sub_nil, ctx_nil] at this ⊢
  refine Code.wp_mono (fun e a w h => ?_) this
  cases e with
  | normal =>
    obtain ⟨x', i', e, ha, h⟩ := h
    exact ⟨x', e, i', ha, h⟩
  | _ => exact h
theorem back_e {X Y ι : Type} {s : X ⊕ Y} {A : X → ι → Act → Prop} {Hp : X → ι → World → Prop} {Q : Exit → Act → World → Prop} {a : Act} {w : World} (x' : X) (i' : ι) (hs : s = .inl x') (ha : A x' i' a) (h : Hp x' i' w) :
    Exit.then (fun a' w' => ∃ x' i', s = .inl x' ∧ A x' i' a' ∧ Hp x' i' w') Q .normal a w := ⟨x', i', hs, ha, h⟩
theorem in_e {X Y : Type} {x : X} {s : X ⊕ Y} (h : some (.inl x) = some s) : s = .inl x := (Option.some.inj h).symm
theorem out_e {X Y : Type} {y y0 : Y} {s : X ⊕ Y} (h : some (.inr y) = some s) (k : ∀ y', s = .inr y' → y0 = y') : y0 = y := k y (Option.some.inj h).symm
theorem ix_e2 {α : Type} {E : IEnc α} {w : World} {A : Option Addr} {cap : Nat} {i : Int} {xs : List α} {G : Prop} (h : RwR w A E cap xs) (hi : inb i xs.length = true) (k : ∀ a, A = some a → G) : G := ix_e h (inb_n hi) k
theorem RwR.at0' {α : Type} {E : IEnc α} [Inhabited α] {w : World} {A : Option Addr} {cap sz : Nat} {i : Int} {xs : List α} {a : Addr} {v : Value} (h : RwR w A E cap xs) (hs : E.sz = sz) (hi : inb i xs.length = true) (hA : A = some a) (hv : nthV (E.cells i.toNat (el xs i.toNat)) 0 = some v) : w.cell? (a.add (i.toNat * sz)) = some v :=
  h.at0 hs (inb_n hi) hA (by rw [← nthV_eq]; exact hv)
theorem Holds.rwB {α : Type} {E : IEnc α} {w : World} {L : List Atom} (i o : Nat) {b cap : Nat} {cs : List Value} {t : TypeId} (xs : List α) (h : Holds w L) (e : nthA L i = some (blk' b cs t)) (hx : headV (rowc E 0 xs) (dropV o cs)) (hn : Nat.ble xs.length cap = true) : RwR w (some ⟨b, o, none⟩) E cap xs :=
  ⟨Nat.le_of_ble_eq_true hn, fun _ _ => trivial, .inr ⟨_, rfl, h.rowB i o e hx⟩⟩
/-- An array's cells out of a row that is long enough. -/
theorem RwR.arr {α : Type} {E : IEnc α} [Inhabited α] {w : World} {a : Addr} {cap n : Nat} {xs : List α} {cs : List Value} (h : RwR w (some a) E cap xs) (hn : Nat.ble n xs.length = true) (hu : Uni E) (hc : cellsA E 0 xs n 0 = cs) : RowAt w a cs.toArray := by
  subst hc
  have hn := Nat.le_of_ble_eq_true hn
  intro j v hv
  rw [List.getElem?_toArray] at hv
  have hpos : 0 < n * E.sz := by
    have := (List.getElem?_eq_some_iff.1 hv).1
    rw [cellsA_len] at this
    omega
  have gen : ∀ (m k : Nat), k + m ≤ xs.length → cellsA E 0 xs m k = rowc E 0 ((xs.drop k).take m) := by
    intro m
    induction m with
    | zero => intro k _; simp [cellsA, rowc]
    | succ m ih =>
      intro k hk
      have hd : xs.drop k = el xs k :: xs.drop (k + 1) := by
        rw [el_getD, List.getD_eq_getElem?_getD, List.getElem?_eq_getElem (by omega), Option.getD_some]
        exact List.drop_eq_getElem_cons (by omega)
      rw [hd, List.take_succ_cons]
      simp only [cellsA, rowc]
      rw [ih (k + 1) (by omega), rowc_uni hu _ (0 + 1) 0]
  obtain ⟨a', e, k⟩ := h.some_ (i := 0) (by
    have : n ≠ 0 := by rintro rfl; simp at hpos
    omega)
  cases e
  refine k j v ?_
  rw [List.getElem?_toArray]
  rw [gen n 0 (by omega)] at hv
  obtain ⟨t, ht⟩ := rowc_take (E := E) xs n 0
  rw [← ht, List.getElem?_append_left (by simpa using (List.getElem?_eq_some_iff.1 hv).1)]
  simpa using hv
theorem and_l {a b : Bool} (h : (a && b) = true) : a = true := by cases a <;> simp_all
theorem and_r {a b : Bool} (h : (a && b) = true) : b = true := by cases a <;> simp_all
theorem inc_n {l : Int} {n : Nat} (h : inc 0 l n = true) : l.toNat ≤ n := by have := inc_i h; omega
/-! ### A frame of which only some slots are told -/
noncomputable def goT (u : Nat → Value) (n : Nat) : Nat → List (Nat × Value) → List Value :=
  Nat.rec (fun _ _ => []) (fun _ ih i l => List.casesOn l (u i :: ih (i + 1) []) (fun p r => Bool.casesOn (Nat.beq p.1 i) (u i :: ih (i + 1) (p :: r)) (p.2 :: ih (i + 1) r))) n
noncomputable def mkT (n : Nat) (u : Nat → Value) (l : List (Nat × Value)) : Array Value := ⟨goT u n 0 l⟩
noncomputable def ov (l : List (Nat × Value)) (u : Nat → Value) (i : Nat) : Value :=
  List.rec (u i) (fun p _ ih => Bool.casesOn (Nat.beq p.1 i) ih p.2) l
def uU (_ : Nat) : Value := undef
abbrev ofB (B : Exit → Act → World → Prop) : Exit → Ora → Act → World → Prop := fun e _ a w => B e a w
/-- The first n numbers of a list, as cells. -/
def lI (k : IntKind) (x : List Int) : Nat → Nat → List Value
  | 0, _ => []
  | n + 1, i => .int k (el x i) :: lI k x n (i + 1)
abbrev nb (n : Int) : Value := .int .u8 n
abbrev nw (n : Int) : Value := .int .u32 n
abbrev nl (n : Int) : Value := .int .u64 n
abbrev ni (n : Int) : Value := .int .i64 n
abbrev np (b : Nat) : Value := .pointer (some ⟨b, 0, none⟩)
abbrev nA (b : Nat) : Option Addr := some ⟨b, 0, none⟩
/-- A number's bits as truths; as a rising list. -/
def bmL : Nat → Nat → List Bool
  | 0, _ => []
  | n + 1, k => Nat.beq (k % 2) 1 :: bmL n (k / 2)
abbrev bmA (n k : Nat) : Array Bool := ⟨bmL n k⟩
def ixL : Nat → Nat → Nat → List Nat
  | 0, _, _ => []
  | n + 1, k, i => match Nat.beq (k % 2) 1 with | true => i :: ixL n (k / 2) (i + 1) | false => ixL n (k / 2) (i + 1)
/-- n times the same cell; one list behind another. -/
def lR (v : Value) : Nat → List Value
  | 0 => []
  | n + 1 => v :: lR v n
def lA : List Value → List Value → List Value
  | [], l => l
  | v :: r, l => v :: lA r l
abbrev aI (k : IntKind) (x : List Int) (n : Nat) : Array Value := ⟨lI k x n 0⟩
theorem atC_gen {P : Program} {root : Code} {p : List Nat} {B : Exit → Act → World → Prop} {w : World} {n : Nat} {l : List (Nat × Value)} {u : Nat → Value} (h : ∀ u, atC P root p B ⟨mkT n u l, []⟩ w) : atC P root p B ⟨mkT n u l, []⟩ w := h u
theorem atO_gen {P : Program} {root : Code} {p : List Nat} {k : Nat} {B : Exit → Act → World → Prop} {w : World} {n : Nat} {l : List (Nat × Value)} {u : Nat → Value} (h : ∀ u, atO P root p k B ⟨mkT n u l, []⟩ w) : atO P root p k B ⟨mkT n u l, []⟩ w := h u
theorem atD_gen {P : Program} {root : Code} {p : List Nat} {fuel : Nat} {listed : Array Bool} {Fs : Facts} {i : Nat} {B : Exit → Act → World → Prop} {w : World} {n : Nat} {l : List (Nat × Value)} {u : Nat → Value} (h : ∀ u, atD P root p fuel listed Fs i B ⟨mkT n u l, []⟩ w) : atD P root p fuel listed Fs i B ⟨mkT n u l, []⟩ w := h u
/-! ### Operations that part on a number that is not told -/
def shlV (k : IntKind) (x y : Int) : Int := k.wrap (x * 2 ^ (min y.toNat k.bits))
def shrV (k : IntKind) (x y : Int) : Int := x.fdiv (2 ^ (min y.toNat k.bits))
theorem run_shl {P : Program} {w : World} {T : TypeId} {o1 o2 : Operand} {k yk : IntKind} {x y : Int} (h : decide (0 ≤ y) = true) :
    (do eqGuard .shl T o1 o2 (.int k x) (.int yk y); binOp .shl T (.int k x) (.int yk y) : Sem Value).run P w = .ok (.int k (shlV k x y)) w := by
  have h : ¬ y < 0 := by simp at h; omega
  simp [eqGuard, binOp, Op.shift, h, shlV]
theorem run_shr {P : Program} {w : World} {T : TypeId} {o1 o2 : Operand} {k yk : IntKind} {x y : Int} (h : decide (0 ≤ y) = true) :
    (do eqGuard .shr T o1 o2 (.int k x) (.int yk y); binOp .shr T (.int k x) (.int yk y) : Sem Value).run P w = .ok (.int k (shrV k x y)) w := by
  have h : ¬ y < 0 := by simp at h; omega
  simp [eqGuard, binOp, Op.shift, h, shrV]
theorem name_h {α β : Type} {x : α} {f : α → β} {r : β} {w : World} {Q : Prop} (L : α → List Atom) (H : bind1 x f = r) (h : Holds w (L x)) (k : ∀ v, f v = r → Holds w (L v) → Q) : Q := k x H h
/-! ### Arrays told as rows -/
theorem OwS.whole {α : Type} {E : IEnc α} {w : World} {b : Nat} {t : TypeId} {cap : Nat} {xs : List α} (h : OwS w (some ⟨b, 0, none⟩) t E cap xs) : ∃ rest, Bk w b ((rowc E 0 xs).toArray ++ rest) t ∧ xs.length ≤ cap ∧ cap ≤ maxLen ∧ (cap - xs.length) * E.sz ≤ rest.size := by
  rcases h with ⟨h, _⟩ | ⟨g, o, pre, rest, hA, hc, hm, hb, ho, hr⟩
  · cases h
  · cases hA
    have hp : pre = #[] := Array.eq_empty_of_size_eq_zero ho
    subst hp
    exact ⟨rest, by simpa using hb, hc, hm, hr⟩
theorem Holds.hasAll {α : Type} {E : IEnc α} {w : World} {L : List Atom} (i : Nat) {b : Nat} {t : TypeId} {cap : Nat} {xs : List α} (xs' : List α) (vs : List Value) (h : Holds w L) (e : nthA L i = some (own' (some ⟨b, 0, none⟩) t E cap xs)) (hl : (xs.length == xs'.length) = true) (ev : vs = rowc E 0 xs') : HasRow w ⟨b, 0, none⟩ 0 vs := by
  obtain ⟨rest, hb, _⟩ := (h.ows i e).whole
  have hl : xs.length = xs'.length := by simpa using hl
  subst ev
  exact Bk.hasRow_ (rowc E 0 xs') 0 w _ hb (by simp only [Array.size_append, List.size_toArray, rowc_len]; rw [hl]; omega) (fun v hv => rowc_plain xs' 0 v hv)
theorem Holds.storeAll {α : Type} {E : IEnc α} {w w1 : World} {L : List Atom} (i : Nat) {b : Nat} {t : TypeId} {cap : Nat} {xs : List α} (xs' : List α) (vs : List Value) (h : Holds w L) (e : nthA L i = some (own' (some ⟨b, 0, none⟩) t E cap xs)) (hl : (xs.length == xs'.length) = true) (ev : vs = rowc E 0 xs')
    (hw : w1 = Proofs.YtfmifminaldmhaaDoor.setRow w ⟨b, 0, none⟩ 0 vs) : Holds w1 (setA L i (own' (some ⟨b, 0, none⟩) t E cap xs')) := by
  have hl : xs.length = xs'.length := by simpa using hl
  subst ev
  refine h.upd i e (fun F hF _ => ⟨F, ⟨?_, hF.2⟩, fun _ hx => .inl hx, fun G hG => Agree.setRow (fun hg => (hG _ hg).1 ((hF.2 _).2 (by simp [blk]))) hw⟩)
  obtain ⟨rest, hb, hc, hm, hr⟩ := hF.1.whole
  refine .inr ⟨b, 0, #[], rest, rfl, by omega, hm, ?_, rfl, by rw [← hl]; exact hr⟩
  have h1 := Bk.setRowAt hb 0 hw rfl
  have gen : ∀ (vs us : List Value) (pre : List Value) (rest : Array Value), vs.length = us.length → setArr ((pre ++ us).toArray ++ rest) pre.length vs = (pre ++ vs).toArray ++ rest := by
    intro vs
    induction vs with
    | nil => intro us pre rest hl; have : us = [] := List.eq_nil_of_length_eq_zero hl.symm; subst this; rfl
    | cons v r ih =>
      intro us pre rest hl
      cases us with
      | nil => simp at hl
      | cons u us =>
        have e1 : ((pre ++ u :: us).toArray ++ rest).setIfInBounds pre.length v = ((pre ++ [v]) ++ us).toArray ++ rest := by
          apply Array.toList_inj.1
          simp
        simp only [setArr]
        rw [e1]
        have := ih us (pre ++ [v]) rest (by simpa using hl)
        rw [List.length_append, List.length_singleton] at this
        rw [this]
        simp
  have := gen (rowc E 0 xs') (rowc E 0 xs) [] rest (by rw [rowc_len, rowc_len, hl])
  simp only [List.nil_append, List.length_nil] at this
  rw [this] at h1
  simpa using h1
/-! ### copy of one-cell elements -/
theorem copy_blk {P : Program} {w : World} {L : List Atom} {dT sT ty elem : TypeId} (i : Nat) {b o dn dc sn sc : Nat} {a : Addr} {cs cs' : List Value} {t : TypeId} (vs : List Value) {Q : Prop} (h : Holds w L) (e : nthA L i = some (blk' b cs t)) (hu : P.underlying dT = some (.slice elem)) (hs : (P.info? elem).map (·.size) = some 1)
    (hr : RowAt w a vs.toArray) (hn : vs.length = Nat.min sn dn) (hl : Nat.ble (o + vs.length) cs.length = true) (hp : vs.all Value.oneCell' = true) (ec : setsV cs o vs = cs')
    (K : ∀ w1, (Builtin.copy_ #[dT, sT] ty #[.slice (some ⟨b, o, none⟩) dn dc, .slice (some a) sn sc]).run P w = .ok (goInt vs.length) w1 → Holds w1 (setA L i (blk' b cs' t)) → Q) : Q := by
  have hl := Nat.le_of_ble_eq_true hl
  have hb := h.bk i e
  have hrun := run_copy_cells (P := P) w dT sT ty elem b o dn dc a sn sc vs hu hs hn (fun j v hj => hr j v (by rw [List.getElem?_toArray]; exact hj))
    (fun j hj => by rw [hb.cell (o + j) (Array.getElem?_eq_getElem (by simp; omega))]; rfl) (fun j _ => hb.frozen _) (fun v hv => List.all_eq_true.1 hp v hv)
  refine K _ hrun (h.upd i e (fun F hF _ => ⟨F, ⟨?_, hF.2⟩, fun _ hx => .inl hx, fun G hG => Agree.fr (setCells_fr _ _ _) (fun x hx => ⟨(hG x hx).2, fun hm => (hG x hx).1 ((hF.2 x).2 (by simpa using hm))⟩)⟩))
  have := Bk.setCells vs o w _ hF.1
  rw [← setsV_eq, ec] at this
  exact this
theorem copy_own {α : Type} {E : IEnc α} {P : Program} {w : World} {L : List Atom} {dT sT ty elem : TypeId} (i l : Nat) {A B : Option Addr} {cap cb : Nat} {t : TypeId} {xs ys : List α} {Q : Prop} (h : Holds w L) (e : nthA L i = some (own' A t E cap xs)) (hu : P.underlying dT = some (.slice elem)) (hs : (P.info? elem).map (·.size) = some 1) (hE : E.sz = 1) (hU : Uni E)
    (hl : l ≤ xs.length) (hr : RwR w B E cb ys)
    (K : ∀ w1, (Builtin.copy_ #[dT, sT] ty #[.slice (cutA A cap l 1) (xs.drop l).length (cap - l), .slice B ys.length cb]).run P w = .ok (goInt (Nat.min ys.length (xs.length - l))) w1 → Holds w1 (setA L i (own' A t E cap (xs.take l ++ ys.take (xs.length - l) ++ xs.drop (l + ys.length)))) → Q) : Q := by
  have hlen : (xs.drop l).length = xs.length - l := List.length_drop
  by_cases hz : Nat.min ys.length (xs.length - l) = 0
  · have hrun := run_copy_none (P := P) w dT sT ty elem (cutA A cap l 1) B (xs.drop l).length (cap - l) ys.length cb hu hs (by rw [hlen]; exact hz)
    rw [hz] at K
    have hx : xs.take l ++ ys.take (xs.length - l) ++ xs.drop (l + ys.length) = xs := by
      rcases Nat.eq_zero_or_pos ys.length with h0 | h0
      · have : ys = [] := List.eq_nil_of_length_eq_zero h0
        subst this; simp
      · have h1 : xs.length - l = 0 := by
          have : Nat.min ys.length (xs.length - l) = min ys.length (xs.length - l) := rfl
          omega
        rw [h1, List.take_zero, List.append_nil, List.drop_eq_nil_of_le (by omega), List.append_nil, List.take_of_length_le (by omega)]
    refine K w hrun ?_
    rw [hx]
    exact h.upd i e (fun F hF _ => ⟨F, hF, fun _ hx => .inl hx, fun _ _ => Agree.refl _ _⟩)
  · have hpos : 0 < ys.length ∧ 0 < xs.length - l := by
      have : Nat.min ys.length (xs.length - l) = min ys.length (xs.length - l) := rfl
      omega
    rcases h.ows i e with ⟨_, _, rfl⟩ | ⟨g, o, pre, rest, rfl, hc, hm, hb, ho, hrs⟩
    · simp at hpos
    · obtain ⟨a, rfl, hra⟩ := hr.some_ hpos.1
      have hcl : cap ≠ l := by omega
      have hA : cutA (some ⟨g, o, none⟩) cap l 1 = some ⟨g, o + l, none⟩ := by simp [cutA, hcl, add_plain]
      rw [hA, hlen] at K
      have hsz := hE
      let m := Nat.min ys.length (xs.length - l)
      have hm' : m ≤ ys.length ∧ m ≤ xs.length - l := ⟨Nat.min_le_left _ _, Nat.min_le_right _ _⟩
      have hcl1 : ∀ (zs : List α) (k : Nat), (rowc E k zs).length = zs.length := fun zs k => by rw [rowc_len, hE, Nat.mul_one]
      have hvl : (rowc E 0 (ys.take m)).length = m := by rw [hcl1, List.length_take]; omega
      have hrun := run_copy_cells (P := P) w dT sT ty elem g (o + l) (xs.length - l) (cap - l) a ys.length cb (rowc E 0 (ys.take m)) hu hs hvl
        (fun j v hj => hra j v (by
          obtain ⟨tl, ht⟩ := rowc_take (E := E) ys m 0
          rw [List.getElem?_toArray, ← ht, List.getElem?_append_left (List.getElem?_eq_some_iff.1 hj).1]; exact hj))
        (fun j hj => by
          rw [hvl] at hj
          rw [hb.cell (o + l + j) (Array.getElem?_eq_getElem (by simp only [Array.size_append, List.size_toArray, hcl1]; omega))]; rfl) (fun j _ => hb.frozen _) (fun v hv => rowc_plain _ _ _ hv)
      rw [hvl] at hrun
      refine K _ hrun (h.upd i e (fun F hF _ => ⟨F, ⟨.inr ⟨g, o, pre, rest, rfl, ?_, hm, ?_, ho, ?_⟩, hF.2⟩, fun _ hx => .inl hx, fun G hG => Agree.fr (setCells_fr _ _ _) (fun x hx => ⟨(hG x hx).2, fun hmm => (hG x hx).1 ((hF.2 x).2 (by simpa [blk] using hmm))⟩)⟩))
      · simp only [List.length_append, List.length_take, List.length_drop]; omega
      · have h1 := Bk.setCells (rowc E 0 (ys.take m)) (o + l) w _ hb
        have hy : ys.take (xs.length - l) = ys.take m := by
          rcases Nat.le_total ys.length (xs.length - l) with hle | hle
          · have : m = ys.length := Nat.min_eq_left hle
            rw [this, List.take_of_length_le hle, List.take_of_length_le (Nat.le_refl _)]
          · have : m = xs.length - l := Nat.min_eq_right hle
            rw [this]
        have hd : xs.drop (l + ys.length) = xs.drop (l + m) := by
          rcases Nat.le_total ys.length (xs.length - l) with hle | hle
          · have : m = ys.length := Nat.min_eq_left hle
            rw [this]
          · have : m = xs.length - l := Nat.min_eq_right hle
            rw [List.drop_eq_nil_of_le (by omega), List.drop_eq_nil_of_le (by omega)]
        rw [hy, hd]
        have sp : xs = xs.take l ++ ((xs.drop l).take m ++ xs.drop (l + m)) := by
          rw [← List.drop_drop, List.take_append_drop, List.take_append_drop]
        have gen : ∀ (vs us : List Value) (p : List Value) (q : Array Value), vs.length = us.length → setArr ((p ++ us).toArray ++ q) p.length vs = (p ++ vs).toArray ++ q := by
          intro vs
          induction vs with
          | nil => intro us p q hl; have : us = [] := List.eq_nil_of_length_eq_zero hl.symm; subst this; rfl
          | cons v r ih =>
            intro us p q hl
            cases us with
            | nil => simp at hl
            | cons u us =>
              have e1 : ((p ++ u :: us).toArray ++ q).setIfInBounds p.length v = ((p ++ [v]) ++ us).toArray ++ q := by
                apply Array.toList_inj.1
                simp
              simp only [setArr]
              rw [e1]
              have := ih us (p ++ [v]) q (by simpa using hl)
              rw [List.length_append, List.length_singleton] at this
              rw [this]
              simp
        have hrow : ∀ (us bs cs : List α), rowc E 0 (us ++ (bs ++ cs)) = rowc E 0 us ++ (rowc E 0 bs ++ rowc E 0 cs) := fun us bs cs => by rw [rowc_uapp hU, rowc_uapp hU]
        have e0 : pre ++ (rowc E 0 xs).toArray ++ rest = ((pre.toList ++ rowc E 0 (xs.take l)) ++ rowc E 0 ((xs.drop l).take m)).toArray ++ ((rowc E 0 (xs.drop (l + m))).toArray ++ rest) := by
          conv => lhs; rw [sp, hrow]
          apply Array.toList_inj.1
          simp
        have e1 : o + l = (pre.toList ++ rowc E 0 (xs.take l)).length := by rw [List.length_append, Array.length_toList, ho, hcl1, List.length_take]; omega
        rw [e0, e1, gen (rowc E 0 (ys.take m)) (rowc E 0 ((xs.drop l).take m)) _ _ (by rw [hvl, hcl1, List.length_take, List.length_drop]; omega)] at h1
        rw [List.append_assoc, hrow]
        have e2 : pre ++ (rowc E 0 (xs.take l) ++ (rowc E 0 (ys.take m) ++ rowc E 0 (xs.drop (l + m)))).toArray ++ rest = ((pre.toList ++ rowc E 0 (xs.take l)) ++ rowc E 0 (ys.take m)).toArray ++ ((rowc E 0 (xs.drop (l + m))).toArray ++ rest) := by
          apply Array.toList_inj.1
          simp
        rw [e2, e1]
        exact h1
      · have hlt : (xs.take l ++ ys.take (xs.length - l) ++ xs.drop (l + ys.length)).length = xs.length := by
          simp only [List.length_append, List.length_take, List.length_drop]; omega
        rw [hlt]; exact hrs
/-! ### Structs of one kind of cells, told as rows -/
theorem rowoff {α : Type} {E : IEnc α} [Inhabited α] {w : World} {b cap : Nat} {xs : List α} (h : RwR w (some ⟨b, 0, none⟩) E cap xs) (hs : E.sz = 1) (o : Nat) {v : Value} (hi : Nat.ble (o + 1) xs.length = true) (hv : nthV (E.cells o (el xs o)) 0 = some v) : w.cell? ⟨b, o, none⟩ = some v := by
  have := h.at0 (i := o) hs (by have := Nat.le_of_ble_eq_true hi; omega) rfl (by rw [← nthV_eq]; exact hv)
  rwa [add_plain, Nat.zero_add, Nat.mul_one] at this
theorem RwR.arrAt {α : Type} {E : IEnc α} [Inhabited α] {w : World} {b cap n : Nat} {xs : List α} {cs : List Value} (o : Nat) (h : RwR w (some ⟨b, 0, none⟩) E cap xs) (hs : E.sz = 1) (hn : Nat.ble (o + n) xs.length = true) (hu : Uni E) (hc : cellsA E 0 xs n o = cs) : RowAt w ⟨b, o, none⟩ cs.toArray := by
  subst hc
  have hn := Nat.le_of_ble_eq_true hn
  intro j v hv
  rw [List.getElem?_toArray] at hv
  have hj : j < n := by
    have := (List.getElem?_eq_some_iff.1 hv).1
    rw [cellsA_len, hs, Nat.mul_one] at this
    exact this
  have gen : ∀ (m k j : Nat), j < m → (cellsA E 0 xs m k)[j]? = (E.cells (k + j) (el xs (k + j)))[0]? := by
    intro m
    induction m with
    | zero => intro k j h; omega
    | succ m ih =>
      intro k j h
      simp only [cellsA]
      cases j with
      | zero => rw [List.getElem?_append_left (by rw [E.len, hs]; omega), hu 0 (k + 0)]; rfl
      | succ j =>
        rw [List.getElem?_append_right (by rw [E.len, hs]; omega), E.len, hs, Nat.add_sub_cancel, ih (k + 1) j (by omega)]
        rw [show k + 1 + j = k + (j + 1) by omega]
  rw [gen n o j hj] at hv
  rw [add_plain]
  exact rowoff h hs (o + j) (by rw [Nat.ble_eq]; omega) (by rw [nthV_eq]; exact hv)
/-! ### Arrays of numbers, compared -/
def eqA : Nat → Nat → List Int → List Int → Bool
  | 0, _, _, _ => true
  | n + 1, k, xs, ys => (el xs k == el ys k) && eqA n (k + 1) xs ys
theorem run_eqItems_ints {P : Program} {w : World} (d : Nat) {e : TypeId} {kd : IntKind} {cs ds : Array Value} {xs ys : List Int} (hu : P.underlying e = some (.int kd)) : ∀ (m k : Nat), (∀ j, j < k + m → cs[j]? = some (.int kd (el xs j))) → (∀ j, j < k + m → ds[j]? = some (.int kd (el ys j))) →
    (Op.eqItems (d + 1) e 1 cs ds (List.range' k m)).run P w = .ok (eqA m k xs ys) w := by
  intro m
  induction m with
  | zero => intro k _ _; simp [Op.eqItems, eqA]
  | succ m ih =>
    intro k hc hd
    have ha : (isAgg e).run P w = .ok false w := by simp [isAgg, run_underlying hu]
    have p1 : (part e cs (k * 1)).run P w = .ok (.int kd (el xs k)) w := by
      simp [part, ha, hc k (by omega)]
    have p2 : (part e ds (k * 1)).run P w = .ok (.int kd (el ys k)) w := by
      simp [part, ha, hd k (by omega)]
    simp only [List.range'_succ, Op.eqItems, Sem.run_bind, p1, p2, Result.andThen_ok, run_equalIn_int w d e kd kd _ _ hu]
    cases hb : (el xs k == el ys k)
    · simp [eqA, hb]
    · simp only [eqA, hb, Bool.true_and]
      simpa using ih (k + 1) (fun j hj => hc j (by omega)) (fun j hj => hd j (by omega))
theorem run_eqA {P : Program} {w : World} {T e : TypeId} {n : Nat} {kd : IntKind} {cs ds : List Value} (xs ys : List Int) {o1 o2 : Operand} (hT : P.underlying T = some (.array n e)) (hu : P.underlying e = some (.int kd)) (hs : (P.info? e).map (·.size) = some 1) (hce : P.cellsOf e = 1) (hg : P.eqGuardType P.depth T = false)
    (hc : cellsA (eI kd) 0 xs n 0 = cs) (hd : cellsA (eI kd) 0 ys n 0 = ds) :
    (do eqGuard .eql T o1 o2 (.agg cs.toArray) (.agg ds.toArray); binOp .eql T (.agg cs.toArray) (.agg ds.toArray) : Sem Value).run P w = .ok (.bool (eqA n 0 xs ys)) w ∧
    (do eqGuard .neq T o1 o2 (.agg cs.toArray) (.agg ds.toArray); binOp .neq T (.agg cs.toArray) (.agg ds.toArray) : Sem Value).run P w = .ok (.bool (!(eqA n 0 xs ys))) w := by
  subst hc hd
  obtain ⟨i, hi, _⟩ := Option.map_eq_some_iff.1 hs
  have cell : ∀ (zs : List Int) (m k j : Nat), j < m → (cellsA (eI kd) 0 zs m k)[j]? = some (.int kd (el zs (k + j))) := by
    intro zs m
    induction m with
    | zero => intro k j h; omega
    | succ m ih =>
      intro k j h
      cases j with
      | zero => simp [cellsA, eI]
      | succ j =>
        have := ih (k + 1) j (by omega)
        simp only [cellsA, eI, List.cons_append, List.nil_append, List.getElem?_cons_succ] at this ⊢
        rw [show k + (j + 1) = k + 1 + j by omega]
        exact this
  have hr := run_equalIn_array (P := P) w 9999 (cellsA (eI kd) 0 xs n 0).toArray (cellsA (eI kd) 0 ys n 0).toArray hT hi
  rw [hce, List.range_eq_range', run_eqItems_ints 9998 hu n 0 (fun j hj => by rw [List.getElem?_toArray, cell xs n 0 j (by omega), Nat.zero_add]) (fun j hj => by rw [List.getElem?_toArray, cell ys n 0 j (by omega), Nat.zero_add])] at hr
  constructor
  · simp only [Sem.run_bind, run_eqGuard_agg w _ T o1 o2 _ _ hg, Result.andThen_ok, run_eql_struct, hr]
  · simp only [Sem.run_bind, run_eqGuard_agg w _ T o1 o2 _ _ hg, Result.andThen_ok, run_neq_struct, hr]
end Go.Proofs.YtfmifminaldmhaaDoor
