/- Proved: the words that the document's own answer makes out of the first primes' roots are the 72 numbers that stand here. Conditions: none. -/
import Derived.Test.YtlfaalbkhfjpkaaDoorVeFn
set_option linter.unusedVariables false
set_option maxRecDepth 100000
namespace Go.Proofs.YtlfaalbkhfjpkaaDoor
open Go.RowKit

noncomputable def primeC (p : Int) : Option Bool := (it (FQuorumref6_prime_L3 p) 400 2).bind (Sum.elim (fun _ => some true) (fun r => some r))
noncomputable def root2C (p : Int) : Option Int := (it (FQuorumref6_root2_L3 p) 40 (0, 34)).bind (fun y => some (IntKind.u32.wrap y))
noncomputable def root3C (p : Int) : Option Int := (it (FQuorumref6_root3_L3 p) 40 (0, 34)).bind (fun y => some (IntKind.u32.wrap y))
noncomputable def wordsC (x9 : Int × Int × (List Int)) : Option (Int × Int × (List Int) ⊕ (List Int)) :=
  (bif decide (x9.1 < 64) then (primeC x9.2.1).bind (fun y24 => ((bif y24 then ((bif decide (x9.1 < 8) then (root2C x9.2.1).bind (fun y80 => chk (inb x9.1 8 && inb x9.1 x9.2.2.length) (some (x9.2.2.set x9.1.toNat y80))) else some x9.2.2)).bind (fun y46 => (root3C x9.2.1).bind (fun y61 => chk (inb x9.1 64 && inb x9.1 ((y46.drop 8).length)) (some (IntKind.i64.wrap (x9.1 + 1), y46.set (8 + x9.1.toNat) y61)))) else some (x9.1, x9.2.2))).bind (fun y32 => some (.inl (y32.1, IntKind.u64.wrap (x9.2.1 + 1), y32.2)))) else some (.inr x9.2.2))
theorem prime_of {p : Int} {b : Bool} (h : primeC p = some b) : FQuorumref6_prime p = some b := by
  unfold primeC at h
  unfold FQuorumref6_prime
  cases e : it (FQuorumref6_prime_L3 p) 400 2 with
  | none => rw [e] at h; cases h
  | some v => rw [loop_of e]; rw [e] at h; exact h
theorem root2_of {p b : Int} (h : root2C p = some b) : FQuorumref6_root2 p = some b := by
  unfold root2C at h
  unfold FQuorumref6_root2
  cases e : it (FQuorumref6_root2_L3 p) 40 (0, 34) with
  | none => rw [e] at h; cases h
  | some v => rw [loop_of e]; rw [e] at h; exact h
theorem root3_of {p b : Int} (h : root3C p = some b) : FQuorumref6_root3 p = some b := by
  unfold root3C at h
  unfold FQuorumref6_root3
  cases e : it (FQuorumref6_root3_L3 p) 40 (0, 34) with
  | none => rw [e] at h; cases h
  | some v => rw [loop_of e]; rw [e] at h; exact h
theorem bind_mono {α β : Type} {o o' : Option α} {f f' : α → Option β} {y : β} (h : o.bind f = some y) (ho : ∀ a, o = some a → o' = some a) (hf : ∀ a y, f a = some y → f' a = some y) : o'.bind f' = some y := by
  cases o with
  | none => cases h
  | some a => rw [ho a rfl]; exact hf a y h
theorem words_of {x : Int × Int × (List Int)} {y : Int × Int × (List Int) ⊕ (List Int)} (h : wordsC x = some y) : FQuorumref6_words_L9 x = some y := by
  unfold wordsC at h
  unfold FQuorumref6_words_L9
  cases c : decide (x.1 < 64) with
  | false => rw [c] at h; exact h
  | true =>
    rw [c] at h
    refine bind_mono h (fun a ha => prime_of ha) (fun b y h => bind_mono h (fun a ha => ?_) (fun _ _ h => h))
    cases b with
    | false => exact ha
    | true =>
      refine bind_mono ha (fun a ha => ?_) (fun l y h => bind_mono h (fun a ha => root3_of ha) (fun _ _ h => h))
      cases c2 : decide (x.1 < 8) with
      | false => rw [c2] at ha; exact ha
      | true => rw [c2] at ha; exact bind_mono ha (fun a ha => root2_of ha) (fun _ _ h => h)
theorem it_mono {X Y : Type} {s s' : X → Option (X ⊕ Y)} (hs : ∀ x y, s x = some y → s' x = some y) : ∀ (n : Nat) (x : X) (y : Y), it s n x = some y → it s' n x = some y
  | 0, _, _, h => by cases h
  | n + 1, x, y, h => by
    unfold it at h ⊢
    cases e : s x with
    | none => rw [e] at h; cases h
    | some v =>
      rw [hs x v e]
      rw [e] at h
      cases v with
      | inl x' => exact it_mono hs n x' y h
      | inr z => exact h
def litH : List Int := [1779033703, 3144134277, 1013904242, 2773480762, 1359893119, 2600822924, 528734635, 1541459225]
def litK : List Int := [1116352408, 1899447441, 3049323471, 3921009573, 961987163, 1508970993, 2453635748, 2870763221, 3624381080, 310598401, 607225278, 1426881987, 1925078388, 2162078206, 2614888103, 3248222580, 3835390401, 4022224774, 264347078, 604807628, 770255983, 1249150122, 1555081692, 1996064986, 2554220882, 2821834349, 2952996808, 3210313671, 3336571891, 3584528711, 113926993, 338241895, 666307205, 773529912, 1294757372, 1396182291, 1695183700, 1986661051, 2177026350, 2456956037, 2730485921, 2820302411, 3259730800, 3345764771, 3516065817, 3600352804, 4094571909, 275423344, 430227734, 506948616, 659060556, 883997877, 958139571, 1322822218, 1537002063, 1747873779, 1955562222, 2024104815, 2227730452, 2361852424, 2428436474, 2756734187, 3204031479, 3329325298]
theorem words_it : it wordsC 400 (0, 2, List.replicate 72 0) = some (litH ++ litK) := by kernel_rfl
theorem words_lit : FQuorumref6_words = some (litH ++ litK) := by
  unfold FQuorumref6_words
  rw [loop_of (it_mono (fun _ _ => words_of) _ _ _ words_it)]
  rfl
end Go.Proofs.YtlfaalbkhfjpkaaDoor
