/- Proved: more operations on parts of memory: copy to a row's head, slices with a capacity of their own, texts turned into bytes. Conditions: each theorem's own hypotheses. No program in sight. -/
import Derived.Test.YtfmifminaldmhaaDoorLift
import Derived.Lib.ConvBytes
set_option linter.unusedVariables false
set_option linter.unusedSimpArgs false
namespace Go.Proofs.YtfmifminaldmhaaDoor
open Go.RowKit
theorem copy_own0 {α : Type} {E : IEnc α} {P : Program} {w : World} {L : List Atom} {dT sT ty elem : TypeId} (i : Nat) {A B : Option Addr} {cap cb : Nat} {t : TypeId} {xs ys : List α} {Q : Prop} (h : Holds w L) (e : nthA L i = some (own' A t E cap xs)) (hu : P.underlying dT = some (.slice elem)) (hs : (P.info? elem).map (·.size) = some 1) (hE : E.sz = 1) (hU : Uni E)
    (hr : RwR w B E cb ys)
    (K : ∀ w1, (Builtin.copy_ #[dT, sT] ty #[.slice A xs.length cap, .slice B ys.length cb]).run P w = .ok (goInt (Nat.min ys.length xs.length)) w1 → Holds w1 (setA L i (own' A t E cap (ys.take xs.length ++ xs.drop ys.length))) → Q) : Q := by
  refine copy_own (sT := sT) (ty := ty) i 0 h e hu hs hE hU (Nat.zero_le _) hr (fun w1 h1 h2 => K w1 ?_ ?_)
  · rw [cutA_zero] at h1
    simpa using h1
  · simpa using h2
section
variable {α : Type} {E : IEnc α}
/-- A slice with a capacity of its own. -/
theorem run_cutc {P : Program} {w : World} {T t : TypeId} {A : Option Addr} {cap sz : Nat} {xs : List α} {k k' : IntKind} {h m : Int} (hc : xs.length ≤ cap) (hT : P.underlying T = some (.slice t)) (hE : P.elem T = t) (hs : sizeIs P t sz = true) (h0 : inc h m xs.length = true) :
    (Instr.sliceAt T (.slice A xs.length cap) none (some (.int k h)) (some (.int k' m))).run P w = .ok (.slice (cutA A m.toNat 0 sz) (xs.take h.toNat).length m.toNat) w := by
  have hi := inc_i h0
  have hT' : P.underlying T = some (.slice (P.elem T)) := by rw [hE]; exact hT
  rw [run_sliceAt_slice w T _ _ _ _ hT', run_slice_hm w T A xs.length cap hT' k k' h m (by omega) (by omega) (by omega), hE, sizeIs_run hs w]
  have : (xs.take h.toNat).length = h.toNat := by rw [List.length_take]; omega
  rw [this]
  cases A <;> simp [sliced, cutA, Result.andThen]
theorem RwR.cutc {w : World} {A : Option Addr} {cap : Nat} {xs : List α} (m sz : Nat) (h : RwR w A E cap xs) (hm : xs.length ≤ m) : RwR w (cutA A m 0 sz) E m xs := by
  rw [cutA_zero]; exact ⟨hm, h.2.1, h.2.2⟩
theorem OwS.cutc {w : World} {A : Option Addr} {t : TypeId} {cap : Nat} {xs : List α} (m sz : Nat) (h : OwS w A t E cap xs) (hm : xs.length ≤ m) (hc : m ≤ cap) : OwS w (cutA A m 0 sz) t E m xs := by
  rw [cutA_zero]
  rcases h with ⟨h1, h2, h3⟩ | ⟨g, o, pre, rest, hA, h1, h2, hb, ho, hr⟩
  · exact .inl ⟨h1, by omega, h3⟩
  · exact .inr ⟨g, o, pre, rest, hA, hm, by omega, hb, ho, Nat.le_trans (Nat.mul_le_mul_right _ (by omega)) hr⟩
theorem Holds.cutc {w : World} {L : List Atom} (q : Nat) {A : Option Addr} {t : TypeId} {cap : Nat} {xs : List α} (m sz : Nat) (h : Holds w L) (e : nthA L q = some (own' A t E cap xs)) (hm : xs.length ≤ m) (hc : m ≤ cap) : Holds w (setA L q (own' (cutA A m 0 sz) t E m xs)) :=
  h.upd q e (fun F hF _ => ⟨F, ⟨hF.1.cutc m sz hm hc, fun x => by rw [cutA_zero]; exact hF.2 x⟩, fun _ hx => .inl hx, fun _ _ => Agree.refl _ _⟩)
/-- A row in new memory that is only read. -/
def ro' (A : Option Addr) (E : IEnc α) (cap : Nat) (xs : List α) : Atom where
  P w F := RwR w A E cap xs ∧ (∀ a, A = some a → a.block < w.heap.size) ∧ ∀ x, F x ↔ x ∈ blk A
  mv := fun {w w' F} h r => by
    refine ⟨⟨h.1.1, h.1.2.1, h.1.2.2.imp id (fun ⟨a, e, k⟩ => ⟨a, e, fun i v hv => ?_⟩)⟩, fun a e => Nat.lt_of_lt_of_le (h.2.1 a e) r.size, h.2.2⟩
    have hb : F a.block := (h.2.2 _).2 (by subst e; simp [blk])
    have := k i v hv
    rw [World.cell?_of_block (w := w) (a := a.add i) (by rw [addr_block]; exact r.block _ hb)]
    exact this
  lt := fun {w F} h x hx => by
    have hx := (h.2.2 x).1 hx
    cases A with
    | none => cases hx
    | some a =>
      have e : x = a.block := by simpa [blk] using hx
      exact e ▸ h.2.1 a rfl
theorem Holds.ro {w : World} {L : List Atom} (h : Holds w L) (i : Nat) {A : Option Addr} {cap : Nat} {xs : List α} (e : nthA L i = some (ro' A E cap xs)) : RwR w A E cap xs := (h.nth i e).choose_spec.1
end
/-- A text's bytes. -/
def bytesL (s : ByteArray) : List Int := s.data.toList.map fun b => (b.toNat : Int)
/-- Bytes that a constant text was turned into: from now on they are only read. -/
theorem conv_mark {P : Program} {w : World} {L : List Atom} {T e : TypeId} (i : Nat) {b n c : Nat} {cs : List Value} {t : TypeId} (xs : List Int) {Q : Prop} (h : Holds w L) (en : nthA L i = some (blk' b cs t)) (hd : P.underlying T = some (.slice e)) (he : P.underlying e = some (.int .u8)) (hx : cs = rowc (eI .u8) 0 xs) (hc : xs.length ≤ c)
    (K : ∀ w1, (convert T T (.slice (some ⟨b, 0, none⟩) n c)).run P w = .ok (.slice (some ⟨b, 0, none⟩) n c) w1 → Holds w1 (setA L i (ro' (some ⟨b, 0, none⟩) (eI .u8) c xs)) → Q) : Q := by
  have hb : w.heap[b]? = some (.cells cs.toArray t (0, 0)) := h.bk i en
  have hsh : w.shape? b = some (t, cs.length) := by simp [World.shape?, hb]
  have hw1 : (w.freeze ⟨b, cs.length, none⟩ 1).heap[b]? = some (.cells cs.toArray t (cs.length, cs.length + 1)) := by
    simp [World.freeze, Array.getElem?_modify, hb]
  have hoth : ∀ k, k ≠ b → (w.freeze ⟨b, cs.length, none⟩ 1).heap[k]? = w.heap[k]? := fun k hk => by
    simp [World.freeze, Array.getElem?_modify, Ne.symm hk]
  refine K (w.freeze ⟨b, cs.length, none⟩ 1) (by simp [convert, run_underlying hd, run_underlying he, markStringish, hsh]) (h.upd i en (fun F hF hlt => ⟨F, ⟨?_, fun a ha => by cases ha; exact (Array.getElem?_eq_some_iff.1 hw1).1, fun x => by rw [hF.2]; simp [blk]⟩, fun _ hx => .inl hx, fun G hG => ?_⟩))
  · refine ⟨hc, fun _ _ => trivial, .inr ⟨_, rfl, fun j v hv => ?_⟩⟩
    rw [add_plain, Nat.zero_add]
    rw [← hx] at hv
    simp [World.cell?, hw1]
    simpa using hv
  · refine ⟨rfl, rfl, rfl, by simp [World.freeze], fun k hk => hoth k (fun e => (hG k hk).1 ((hF.2 k).2 e))⟩
end Go.Proofs.YtfmifminaldmhaaDoor
