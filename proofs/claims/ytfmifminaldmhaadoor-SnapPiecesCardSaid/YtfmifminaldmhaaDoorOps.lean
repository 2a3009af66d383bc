/- Rows as parts: make, append, cut, copy; what is read of them. No program in sight. -/
import Derived.Test.YtfmifminaldmhaaDoorSep
set_option linter.unusedVariables false
set_option linter.unusedSimpArgs false
namespace Go.Proofs.YtfmifminaldmhaaDoor
open Go.RowKit

def inb (i : Int) (n : Nat) : Bool := decide (0 ≤ i) && decide (i < (n : Int))
theorem inb_i {i : Int} {n : Nat} (h : inb i n = true) : 0 ≤ i ∧ i < (n : Int) := by simpa [inb] using h
theorem inb_n {i : Int} {n : Nat} (h : inb i n = true) : i.toNat < n := by have := inb_i h; omega
def inc (l h : Int) (n : Nat) : Bool := decide (0 ≤ l) && decide (l ≤ h) && decide (h ≤ (n : Int))
theorem inc_i {l h : Int} {n : Nat} (k : inc l h n = true) : 0 ≤ l ∧ l ≤ h ∧ h ≤ (n : Int) := by simpa [inc, and_assoc] using k
def okl (n bytes : Nat) : Bool := decide (n ≤ 140737488355328) && decide (n * bytes ≤ 140737488355328)
theorem okl_i {n b : Nat} (h : okl n b = true) : n ≤ 140737488355328 ∧ n * b ≤ 140737488355328 := by simpa [okl] using h
/-- An obligation: without it there is no answer. -/
def chk {α : Type} (c : Bool) (T : Option α) : Option α := bif c then T else none
theorem chk_l {α : Type} {c : Bool} {T : Option α} {r : α} (H : chk c T = some r) : c = true := by
  cases c
  · cases H
  · rfl
theorem chk_r {α : Type} {c : Bool} {T : Option α} {r : α} (H : chk c T = some r) : T = some r := by
  cases c
  · cases H
  · exact H
def cutA (A : Option Addr) (cap l sz : Nat) : Option Addr := if cap = l then A else A.map (·.add (l * sz))
theorem blk_cutA {A : Option Addr} {cap l sz : Nat} : blk (cutA A cap l sz) = blk A := by
  unfold cutA; split
  · rfl
  · cases A <;> simp [blk, addr_block]
section
variable {α : Type} {E : IEnc α}
theorem RwR.lenle {w : World} {A : Option Addr} {cap : Nat} {xs : List α} (h : RwR w A E cap xs) : xs.length ≤ cap := h.1
theorem RwR.cutt {w : World} {A : Option Addr} {cap : Nat} {xs : List α} (n : Nat) (h : RwR w A E cap xs) : RwR w A E cap (xs.take n) := by
  refine ⟨by have := h.1; rw [List.length_take]; omega, h.2.1, ?_⟩
  rcases h.2.2 with rfl | ⟨a, e, k⟩
  · exact .inl (by simp)
  · refine .inr ⟨a, e, fun i v hv => k i v ?_⟩
    obtain ⟨t, ht⟩ := rowc_take (E := E) xs n 0
    rw [List.getElem?_toArray] at hv ⊢
    rw [← ht, List.getElem?_append_left (List.getElem?_eq_some_iff.1 hv).1]
    exact hv
theorem RwR.cutl {w : World} {A : Option Addr} {cap : Nat} {xs : List α} (l : Nat) (hu : Uni E) (h : RwR w A E cap xs) : RwR w (cutA A cap l E.sz) E (cap - l) (xs.drop l) := by
  refine ⟨by have := h.1; rw [List.length_drop]; omega, fun _ _ => trivial, ?_⟩
  · by_cases hl : l < xs.length
    · obtain ⟨a, e, k⟩ := h.some_ hl
      subst e
      have hc : cap ≠ l := by have := h.1; omega
      refine .inr ⟨a.add (l * E.sz), by simp [cutA, hc], fun i v hv => ?_⟩
      rw [add_add]
      refine k _ _ ?_
      rw [List.getElem?_toArray] at hv ⊢
      rw [rowc_uni hu _ 0 (0 + l), ← rowc_drop, List.getElem?_drop] at hv
      exact hv
    · exact .inl (List.drop_eq_nil_of_le (by omega))
theorem OwS.cutt {w : World} {A : Option Addr} {t : TypeId} {cap : Nat} {xs : List α} (n : Nat) (h : OwS w A t E cap xs) : OwS w A t E cap (xs.take n) := by
  rcases h with ⟨h1, h2, rfl⟩ | ⟨g, o, pre, rest, hA, hc, hm, hb, ho, hr⟩
  · exact .inl ⟨h1, h2, by simp⟩
  · obtain ⟨tl, ht⟩ := rowc_take (E := E) xs n 0
    refine .inr ⟨g, o, pre, tl.toArray ++ rest, hA, by rw [List.length_take]; omega, hm, ?_, ho, ?_⟩
    · have e : pre ++ (rowc E 0 (xs.take n)).toArray ++ (tl.toArray ++ rest) = pre ++ (rowc E 0 xs).toArray ++ rest := by
        apply Array.toList_inj.1
        simp [← ht]
      rw [e]; exact hb
    · have hl : (rowc E 0 (xs.take n)).length + tl.length = (rowc E 0 xs).length := by rw [← ht, List.length_append]
      rw [rowc_len, rowc_len] at hl
      simp only [Array.size_append, List.size_toArray]
      have hk : (xs.take n).length ≤ xs.length := by rw [List.length_take]; omega
      rw [Nat.sub_mul] at hr ⊢
      have hcm : xs.length * E.sz ≤ cap * E.sz := Nat.mul_le_mul_right _ hc
      omega
theorem OwS.cutl {w : World} {A : Option Addr} {t : TypeId} {cap : Nat} {xs : List α} (l : Nat) (hu : Uni E) (hl : l ≤ xs.length) (h : OwS w A t E cap xs) : OwS w (cutA A cap l E.sz) t E (cap - l) (xs.drop l) := by
  rcases h with ⟨rfl, rfl, rfl⟩ | ⟨g, o, pre, rest, rfl, hc, hm, hb, ho, hr⟩
  · refine .inl ⟨by simp [cutA], by simp, by simp⟩
  · by_cases hcl : cap = l
    · subst hcl
      refine .inr ⟨g, o, pre, (rowc E 0 xs).toArray ++ rest, by simp [cutA], by simp; omega, by simp, ?_, ho, by simp⟩
      have hx : xs.drop cap = [] := List.drop_eq_nil_of_le hc
      rw [hx]
      have e : pre ++ (rowc E 0 ([] : List α)).toArray ++ ((rowc E 0 xs).toArray ++ rest) = pre ++ (rowc E 0 xs).toArray ++ rest := by
        apply Array.toList_inj.1; simp [rowc]
      rw [e]; exact hb
    · have hsp : rowc E 0 xs = rowc E 0 (xs.take l) ++ rowc E 0 (xs.drop l) := by
        conv => lhs; rw [← List.take_append_drop l xs]
        rw [rowc_app, rowc_uni hu (xs.drop l) _ 0]
      refine .inr ⟨g, o + l * E.sz, pre ++ (rowc E 0 (xs.take l)).toArray, rest, by simp [cutA, hcl, add_plain], by rw [List.length_drop]; omega, by omega, ?_, ?_, ?_⟩
      · have e : pre ++ (rowc E 0 (xs.take l)).toArray ++ (rowc E 0 (xs.drop l)).toArray ++ rest = pre ++ (rowc E 0 xs).toArray ++ rest := by
          apply Array.toList_inj.1; simp [hsp]
        rw [e]; exact hb
      · simp only [Array.size_append, List.size_toArray, rowc_len, ho]
        rw [List.length_take, Nat.min_eq_left hl]
      · rw [List.length_drop]
        have : cap - l - (xs.length - l) = cap - xs.length := by omega
        rw [this]; exact hr
theorem Holds.cutt {w : World} {L : List Atom} (q : Nat) {A : Option Addr} {t : TypeId} {cap : Nat} {xs : List α} (n : Nat) (h : Holds w L) (e : nthA L q = some (own' A t E cap xs)) : Holds w (setA L q (own' A t E cap (xs.take n))) :=
  h.upd q e (fun F hF _ => ⟨F, ⟨hF.1.cutt n, hF.2⟩, fun _ hx => .inl hx, fun _ _ => Agree.refl _ _⟩)
theorem Holds.cutl {w : World} {L : List Atom} (q : Nat) {A : Option Addr} {t : TypeId} {cap sz : Nat} {xs : List α} (l : Nat) (hu : Uni E) (hs : E.sz = sz) (h : Holds w L) (e : nthA L q = some (own' A t E cap xs)) (hl : l ≤ xs.length) : Holds w (setA L q (own' (cutA A cap l sz) t E (cap - l) (xs.drop l))) := by
  subst hs
  exact h.upd q e (fun F hF _ => ⟨F, ⟨hF.1.cutl l hu hl, fun x => by rw [hF.2, blk_cutA]⟩, fun _ hx => .inl hx, fun _ _ => Agree.refl _ _⟩)

/-! slice expressions -/
theorem run_cut {P : Program} {w : World} {T t : TypeId} {A : Option Addr} {n cap sz : Nat} {lo hi : Option Value} {l h : Int} (hT : P.underlying T = some (.slice t)) (hE : P.elem T = t) (hs : sizeIs P t sz = true)
    (hlo : (∃ k, lo = some (.int k l)) ∨ (lo = none ∧ l = 0)) (hhi : (∃ k, hi = some (.int k h)) ∨ (hi = none ∧ h = (n : Int))) (h0 : 0 ≤ l ∧ l ≤ h ∧ h ≤ (cap : Int)) :
    (Instr.sliceAt T (.slice A n cap) lo hi none).run P w = .ok (.slice (cutA A cap l.toNat sz) (h.toNat - l.toNat) (cap - l.toNat)) w := by
  have hT' : P.underlying T = some (.slice (P.elem T)) := by rw [hE]; exact hT
  have hz := sizeIs_run hs
  have hr : (Instr.sliceAt T (.slice A n cap) lo hi none).run P w = .ok (sliced A l.toNat h.toNat cap sz) w := by
    rw [run_sliceAt_slice w T _ _ _ _ hT']
    rcases hlo with ⟨kl, rfl⟩ | ⟨rfl, rfl⟩ <;> rcases hhi with ⟨kh, rfl⟩ | ⟨rfl, rfl⟩
    · rw [run_slice_lh w T A n cap hT' kl kh l h (by omega) (by omega) (by omega), hE, hz w]; rfl
    · rw [run_slice_l w T A n cap hT' kl l (by omega) (by omega), hE, hz w]; rfl
    · rw [run_slice_h w T A n cap hT' kh h (by omega) (by omega), hE, hz w]; rfl
    · rw [run_slice_all w T A n cap hT', hE, hz w]; rfl
  rw [hr]
  cases A <;> simp [sliced, cutA]
theorem cutA_zero {A : Option Addr} {cap sz : Nat} : cutA A cap 0 sz = A := by
  unfold cutA; split
  · rfl
  · cases A <;> simp [add_zero]
theorem run_cutl {P : Program} {w : World} {T t : TypeId} {A : Option Addr} {cap sz : Nat} {xs : List α} {k : IntKind} {l : Int} (hc : xs.length ≤ cap) (hT : P.underlying T = some (.slice t)) (hE : P.elem T = t) (hs : sizeIs P t sz = true) (h0 : inc 0 l xs.length = true) :
    (Instr.sliceAt T (.slice A xs.length cap) (some (.int k l)) none none).run P w = .ok (.slice (cutA A cap l.toNat sz) (xs.drop l.toNat).length (cap - l.toNat)) w := by
  have := inc_i h0
  rw [run_cut hT hE hs (.inl ⟨k, rfl⟩) (.inr ⟨rfl, rfl⟩) (by omega), List.length_drop]
  congr 2
theorem run_cuth {P : Program} {w : World} {T t : TypeId} {A : Option Addr} {cap sz : Nat} {xs : List α} {k : IntKind} {h : Int} (hc : xs.length ≤ cap) (hT : P.underlying T = some (.slice t)) (hE : P.elem T = t) (hs : sizeIs P t sz = true) (h0 : inc 0 h xs.length = true) :
    (Instr.sliceAt T (.slice A xs.length cap) none (some (.int k h)) none).run P w = .ok (.slice A (xs.take h.toNat).length cap) w := by
  have := inc_i h0
  rw [run_cut hT hE hs (.inr ⟨rfl, rfl⟩) (.inl ⟨k, rfl⟩) (by omega), List.length_take, show (0 : Int).toNat = 0 from rfl, cutA_zero]
  congr 2
  omega
theorem run_cutlh {P : Program} {w : World} {T t : TypeId} {A : Option Addr} {cap sz : Nat} {xs : List α} {k k' : IntKind} {l h : Int} (hc : xs.length ≤ cap) (hT : P.underlying T = some (.slice t)) (hE : P.elem T = t) (hs : sizeIs P t sz = true) (h0 : inc l h xs.length = true) :
    (Instr.sliceAt T (.slice A xs.length cap) (some (.int k l)) (some (.int k' h)) none).run P w = .ok (.slice (cutA A cap l.toNat sz) ((xs.drop l.toNat).take (h.toNat - l.toNat)).length (cap - l.toNat)) w := by
  have := inc_i h0
  rw [run_cut hT hE hs (.inl ⟨k, rfl⟩) (.inl ⟨k', rfl⟩) (by omega), List.length_take, List.length_drop]
  congr 2
  omega
/-! append -/
theorem Bk.setCells {t : TypeId} {g : Nat} : ∀ (vs : List Value) (o : Nat) (w : World) (cs : Array Value), Bk w g cs t → Bk (w.setCells g o vs) g (setArr cs o vs) t := by
  intro vs
  induction vs with
  | nil => exact fun _ _ _ h => h
  | cons v r ih => exact fun o w cs h => ih (o + 1) _ _ (h.set o v)
theorem setCells_fr {g : Nat} (vs : List Value) (o : Nat) (w : World) : Fr [g] w (w.setCells g o vs) := by
  refine ⟨World.os_setCells _ _ _ _, ?_, World.output_setCells _ _ _ _, ?_, fun k hk hn => World.heap_setCells_other w g _ _ hk (by simpa using hn)⟩
  · have : ∀ (vs : List Value) (o : Nat) (w : World), (w.setCells g o vs).tape = w.tape := by
      intro vs
      induction vs with
      | nil => exact fun _ _ => rfl
      | cons v r ih => exact fun o w => (ih (o + 1) _).trans rfl
    exact this _ _ _
  · have : ∀ (vs : List Value) (o : Nat) (w : World), (w.setCells g o vs).heap.size = w.heap.size := by
      intro vs
      induction vs with
      | nil => exact fun _ _ => rfl
      | cons v r ih => exact fun o w => (ih (o + 1) _).trans (by simp [World.setCell])
    exact Nat.le_of_eq (this _ _ _).symm
theorem setArr_mid : ∀ (vs : List Value) (pre : List Value) (rest : Array Value), vs.length ≤ rest.size → setArr (pre.toArray ++ rest) pre.length vs = (pre ++ vs).toArray ++ rest.extract vs.length rest.size := by
  intro vs
  induction vs with
  | nil => intro pre rest _; simp [setArr]
  | cons v r ih =>
    intro pre rest hle
    obtain ⟨l⟩ := rest
    cases l with
    | nil => simp at hle
    | cons u l =>
      have e1 : (pre.toArray ++ (⟨u :: l⟩ : Array Value)).setIfInBounds pre.length v = (pre ++ [v]).toArray ++ (⟨l⟩ : Array Value) := by
        apply Array.toList_inj.1
        simp
      simp only [setArr]
      rw [e1]
      have := ih (pre ++ [v]) ⟨l⟩ (by simpa using hle)
      rw [List.length_append, List.length_singleton] at this
      rw [this]
      apply Array.toList_inj.1
      simp [List.extract_eq_take_drop]
theorem Holds.append {P : Program} {w : World} {L : List Atom} (q : Nat) {T tx ty t : TypeId} {z : Value} {bytes cap n m sz : Nat} {A : Option Addr} {E' : IEnc α} {xs ys : List α} {y : Value} {news : List Value} {Q : Prop} (h : Holds w L) (en : nthA L q = some (own' A t E cap xs)) (hn : xs.length = n) (hs : Src P E.sz tx y m news w) (hm : ys.length = m) (hsz : E.sz = sz) (hE : E'.sz = E.sz) (he : rowc E' 0 (xs ++ ys) = rowc E 0 xs ++ news)
    (ht : P.underlying T = some (.slice t)) (hi : (P.info? t).map (fun i => (i.zero, i.size, i.bytes)) = some (some z, sz, bytes)) (hz : z.cells.size = sz)
    (hb : okl (xs ++ ys).length bytes = true)
    (K : ∀ (A' : Option Addr) (cap' : Nat) (w1 : World), (Builtin.append_ #[T, tx] ty #[.slice A n cap, y]).run P w = .ok (.slice A' (xs ++ ys).length cap') w1 → Holds w1 (setA L q (own' A' t E' cap' (xs ++ ys))) → Q) : Q := by
  subst hn hm hsz
  obtain ⟨hl, hb⟩ := okl_i hb
  obtain ⟨i0, hi0, hzz⟩ := Option.map_eq_some_iff.1 hi
  simp only [Prod.mk.injEq] at hzz
  obtain ⟨hz0, hz1, hz2⟩ := hzz
  have hnl := hs.newsLen
  have hlen : (xs ++ ys).length = xs.length + ys.length := List.length_append
  have hmax : (xs ++ ys).length ≤ maxLen := by unfold maxLen; omega
  have H := h.ows q en
  by_cases hroom : xs.length + ys.length ≤ cap
  · rcases H with ⟨hA, hc0, hx0⟩ | ⟨g, o, pre, rest, hA, hc, hcm, hbk, ho, hrs⟩
    · subst hA hc0 hx0
      obtain rfl : ys = [] := List.eq_nil_of_length_eq_zero (by simp at hroom; simpa using hroom)
      obtain rfl : news = [] := List.eq_nil_of_length_eq_zero (by simpa using hnl)
      have hr := run_append_nothing (P := P) w T tx ty t i0 ht hi0 none 0 0 (Nat.le_refl _) y (by rw [hz1]; exact hs)
      refine K none 0 w hr (h.upd q en (fun F hF _ => ⟨F, ⟨.inl ⟨rfl, rfl, rfl⟩, hF.2⟩, fun _ hx => .inl hx, fun _ _ => Agree.refl _ _⟩))
    · subst hA
      have hxl := rowc_len (E := E) xs 0
      have hfit : news.length ≤ rest.size := by
        rw [hnl]
        refine Nat.le_trans (Nat.mul_le_mul_right _ ?_) hrs
        omega
      have hps : pre.toList.length = o := by rw [Array.length_toList, ho]
      have hr := run_append_room_src (P := P) w T tx ty t i0 ht hi0 g o xs.length cap y ys.length news (by rw [hz1]; exact hs) hroom
        (fun j hj => by
          rw [hz1, ← hxl]
          have : o + (rowc E 0 xs).length + j < (pre ++ (rowc E 0 xs).toArray ++ rest).size := by simp only [Array.size_append, List.size_toArray, ho]; omega
          rw [hbk.cell _ (Array.getElem?_eq_getElem this)]; rfl)
        (fun j hj => hbk.frozen _)
      rw [hz1, ← hxl] at hr
      refine K (some ⟨g, o, none⟩) cap _ (by rw [hlen]; exact hr) (h.upd q en (fun F hF _ => ⟨F, ⟨.inr ⟨g, o, pre, rest.extract news.length rest.size, rfl, by rw [hlen]; exact hroom, hcm, ?_, ho, ?_⟩, hF.2⟩, fun _ hx => .inl hx, fun G hG => Agree.fr (setCells_fr _ _ _) (fun b hb' => ⟨(hG b hb').2, fun hm => (hG b hb').1 ((hF.2 b).2 (by simpa [blk] using hm))⟩)⟩))
      · have h1 := Bk.setCells news (o + (rowc E 0 xs).length) w _ hbk
        have e : setArr (pre ++ (rowc E 0 xs).toArray ++ rest) (o + (rowc E 0 xs).length) news = pre ++ (rowc E' 0 (xs ++ ys)).toArray ++ rest.extract news.length rest.size := by
          have e0 : pre ++ (rowc E 0 xs).toArray = (pre.toList ++ rowc E 0 xs).toArray := by apply Array.toList_inj.1; simp
          have e1 : o + (rowc E 0 xs).length = (pre.toList ++ rowc E 0 xs).length := by rw [List.length_append, hps]
          rw [e0, e1, setArr_mid news _ rest hfit, he]
          apply Array.toList_inj.1
          simp
        rw [e] at h1
        exact h1
      · rw [hE, hlen, Array.size_extract, Nat.min_self, hnl]
        rw [Nat.sub_mul] at hrs ⊢
        have : xs.length * E.sz ≤ cap * E.sz := Nat.mul_le_mul_right _ hc
        rw [Nat.add_mul]
        omega
  · have hold : (Builtin.firstCells i0.size xs.length (.slice A xs.length cap)).run P w.drew = .ok (rowc E 0 xs).toArray w.drew := by
      have := (Src.of_row (P := P) (tx := T) ht H.rw).cellsD
      rw [hz1]
      exact this
    have hfit : Builtin.nextslicecap (xs.length + ys.length) cap * i0.bytes ≤ 281474976710656 := growslice_fits (by omega) (by rw [hz2, ← hlen]; exact hb)
    have hr := run_append_grow_src (P := P) w T tx ty t i0 z ht hi0 hz0 A xs.length cap (rowc E 0 xs) hold y ys.length news (by rw [hz1]; exact hs) (by omega) (by omega) hfit
    have hge := grownCap_ge w (xs.length + ys.length) cap t
    have hcm : grownCap w (xs.length + ys.length) cap t ≤ maxLen := grownCap_le_maxLen w (xs.length + ys.length) cap t (by rw [← hlen]; exact hmax)
    refine K (some ⟨w.heap.size, 0, none⟩) _ _ (by rw [hlen]; exact hr) (h.upd q en (fun F hF hFl => ⟨fun x => x = w.heap.size, ⟨OwS.ofR (.inr ⟨w.heap.size, rfl, by rw [hlen]; exact hge, ?_⟩), fun x => by simp [blk]⟩, fun x hx => .inr (by omega), fun G hG => Agree.trans (Agree.drew rfl) (Agree.alloc (w := w.drew) (fun b hb' => (hG b hb').2) rfl)⟩))
    rw [← he]
    refine ⟨_, Bk.new w.drew _ _, ?_, hcm⟩
    have : (rowc E' 0 (xs ++ ys)).length = xs.length * E.sz + ys.length * E.sz := by rw [he, List.length_append, rowc_len, hnl]
    simp only [Array.size_append, List.size_toArray, size_zeroCells, hz, this, hE]
    rw [← Nat.add_mul, ← Nat.add_mul]
    congr 1
    omega
theorem Holds.make {P : Program} {w : World} {L : List Atom} {T t : TypeId} {z : Value} {bytes sz : Nat} {kl kc : IntKind} {l c : Int} {x : α} {Q : Prop} (h : Holds w L) (ht : P.underlying T = some (.slice t)) (hi : (P.info? t).map (fun i => (i.zero, i.size, i.bytes)) = some (some z, sz, bytes)) (hsz : E.sz = sz) (hz : ∀ i, z.cells.toList = E.cells i x) (hp : Nat.blt 0 sz = true)
    (h0 : inc l c c.toNat = true) (hb : okl c.toNat bytes = true)
    (K : ∀ (g : Nat) (w1 : World), (Instr.makeSlice T (.int kl l) (.int kc c)).run P w = .ok (.slice (some ⟨g, 0, none⟩) (List.replicate l.toNat x).length c.toNat) w1 → Holds w1 (own' (some ⟨g, 0, none⟩) t E c.toNat (List.replicate l.toNat x) :: L) → Q) : Q := by
  subst hsz
  have h1 := inc_i h0
  obtain ⟨h2, h3⟩ := okl_i hb
  refine make_row (kl := kl) (kc := kc) (l := l) (c := c) (x := x) ht hi hz (by simpa [Nat.blt_eq] using hp) h1.1 (by omega) ?_ (by omega) (fun g w1 hr hg ho hf => K g w1 hr (h.add (F' := fun x => x = g) ⟨OwS.ofR ho, fun x => by simp [blk]⟩ (fun x hx => by omega) (fun G hG => Agree.fr hf (fun b hb' => ⟨hG b hb', by simp⟩))))
  have : ((c.toNat * bytes : Nat) : Int) = c * (bytes : Int) := by rw [Int.natCast_mul, Int.toNat_of_nonneg (by omega)]
  omega
end
end Go.Proofs.YtfmifminaldmhaaDoor
