/- A condition on code that the kernel evaluates to a small explicit proposition about cells, new blocks, tests and calls; and that it is enough for the walk's own condition. No program in sight. -/
import Derived.Test.YtfmifminaldmhaaDoorVoc
import Derived.Deep.LoopGhost
import Derived.Deep.RegionHeld3
namespace Go.Proofs.YtfmifminaldmhaaDoor
open Go.RowKit

/-- What the evaluation is told ahead: what loads yield, where tests part, where to stop. -/
inductive Ora where
  | nil
  | cell (v : Value) (r : Ora)
  | fork (t f : Ora)
  | tick (r : Ora)
  | idx (r : Ora)
  | run (v : Value) (r : Ora)
  | runw
  | call
  | stop
  | wait (n : Nat) (r : Ora)
  | bind (f : Nat → Ora)
  | draw (Fs : List (List Nat × List Nat × (World → Prop))) (tk : List Nat) (r : Ora)

/-- What is told when one of n operations that ask nothing is done. -/
def Ora.less : Nat → Ora → Ora
  | 0, r => r
  | 1, r => r
  | n + 2, r => .wait (n + 1) r

def vIf (b : Bool) (p q : Prop) : Prop := match b with | true => p | false => q
theorem vIf_intro {b : Bool} {p q : Prop} (h1 : b = true → p) (h2 : b = false → q) : vIf b p q := by
  cases b
  · exact h2 rfl
  · exact h1 rfl
theorem vIf_elim {b : Bool} {p q r : Prop} (h : vIf b p q) (h1 : b = true → p → r) (h2 : b = false → q → r) : r := by
  cases b
  · exact h2 rfl h
  · exact h1 rfl h

def Plain (v : Value) : Prop := v.oneCell' = true
def Has (w : World) (a : Addr) : Prop := (∃ u, w.cell? a = some u) ∧ w.frozen? a = false
/-- The cells from an address on. -/
def RowAt (w : World) (ad : Addr) (cs : Array Value) : Prop := ∀ i v, cs[i]? = some v → w.cell? (ad.add i) = some v
def setRow (w : World) (ad : Addr) : Nat → List Value → World
  | _, [] => w
  | i, v :: r => setRow (w.setCell (ad.add i) v) ad (i + 1) r
def HasRow (w : World) (ad : Addr) : Nat → List Value → Prop
  | _, [] => True
  | i, v :: r => Plain v ∧ Has w (ad.add i) ∧ HasRow (w.setCell (ad.add i) v) ad (i + 1) r

/-! ### Sem, free of worlds -/
def semVc {α : Type} (P : Program) : Sem α → Ora → World → (α → Ora → World → Prop) → Prop
  | .pure a, r, w, K => K a r w
  | .load _ ad k, r, w, K => match r with | .cell v r => w.cell? ad = some v ∧ semVc P (k v) r w K | _ => False
  | .store _ ad v k, r, w, K => Plain v ∧ Has w ad ∧ ∀ w1, w1 = w.setCell ad v → semVc P k r w1 K
  | .new o k, r, w, K => match r with | .bind f => (∀ b w1, b = w.heap.size → w1 = w.alloc o → semVc P (k b) (f b) w1 K) | r => ∀ b w1, b = w.heap.size → w1 = w.alloc o → semVc P (k b) r w1 K
  | .program k, r, w, K => semVc P (k P) r w K
  | .mark _ k, r, w, K => semVc P k r w K
  | _, _, _, _ => False

theorem run_store_plain {α : Type} {P : Program} {m : Mode} {ad : Addr} {v : Value} {k : Sem α} {w : World} (hv : Plain v) (h : Has w ad) : (Sem.store m ad v k).run P w = k.run P (w.setCell ad v) := by
  obtain ⟨⟨u, hu⟩, hf⟩ := h
  cases v <;> first | (simp [Plain, Value.oneCell'] at hv; done) | simp [Sem.run, hu, hf]

theorem semVc_run {α : Type} {P : Program} (s : Sem α) : ∀ (r : Ora) (w : World) (K : α → Ora → World → Prop), semVc P s r w K → ∃ a r' w', s.run P w = .ok a w' ∧ K a r' w' := by
  induction s with
  | pure a => exact fun r w K h => ⟨a, r, w, rfl, h⟩
  | load m ad k ih =>
    intro r w K h
    cases r with
    | cell v r =>
      obtain ⟨hc, h⟩ := h
      obtain ⟨a, r', w', h1, h2⟩ := ih v r w K h
      exact ⟨a, r', w', by simp only [Sem.run, hc]; exact h1, h2⟩
    | _ => exact h.elim
  | store m ad v k ih =>
    intro r w K ⟨hv, hh, h⟩
    obtain ⟨a, r', w', h1, h2⟩ := ih r _ K (h _ rfl)
    exact ⟨a, r', w', by rw [run_store_plain hv hh]; exact h1, h2⟩
  | new o k ih =>
    intro r w K h
    unfold semVc at h
    split at h
    · obtain ⟨a, r', w', h1, h2⟩ := ih _ _ _ K (h _ _ rfl rfl)
      exact ⟨a, r', w', h1, h2⟩
    · obtain ⟨a, r', w', h1, h2⟩ := ih _ _ _ K (h _ _ rfl rfl)
      exact ⟨a, r', w', h1, h2⟩
  | program k ih => exact fun r w K h => ih P r w K h
  | mark m k ih => exact fun r w K h => ih r w K h
  | _ => exact fun r w K h => h.elim

/-! ### Loads and stores of whole variables -/
def sizeIs (P : Program) (t : TypeId) (n : Nat) : Bool := match P.info? t with | some i => i.size == n | none => false
def vcLoad (P : Program) (t : TypeId) (x : Value) (r : Ora) (w : World) (K : Value → Ora → World → Prop) : Prop :=
  match x, r with
  | .pointer (some ad), .cell v r =>
    match P.underlying t with
    | some (.struct _) => match v with | .agg cs => (bif sizeIs P t cs.size then RowAt w ad cs ∧ K v r w else False) | _ => False
    | some (.array _ _) => match v with | .agg cs => (bif sizeIs P t cs.size then RowAt w ad cs ∧ K v r w else False) | _ => False
    | some _ => w.cell? ad = some v ∧ K v r w
    | none => False
  | _, _ => False
def vcStore (P : Program) (t : TypeId) (x v : Value) (w : World) (K : World → Prop) : Prop :=
  match x with
  | .pointer (some ad) =>
    match P.underlying t with
    | some (.struct _) => match v with | .agg cs => (bif sizeIs P t cs.size then HasRow w ad 0 cs.toList ∧ ∀ w1, w1 = setRow w ad 0 cs.toList → K w1 else False) | _ => False
    | some (.array _ _) => match v with | .agg cs => (bif sizeIs P t cs.size then HasRow w ad 0 cs.toList ∧ ∀ w1, w1 = setRow w ad 0 cs.toList → K w1 else False) | _ => False
    | some _ => bif sizeIs P t 1 then Plain v ∧ Has w ad ∧ ∀ w1, w1 = w.setCell ad v → K w1 else False
    | none => False
  | _ => False

theorem sizeIs_run {P : Program} {t : TypeId} {n : Nat} (h : sizeIs P t n = true) (w : World) : (sizeOf t).run P w = .ok n w := by
  unfold sizeIs at h
  split at h
  · rename_i i hi
    have : i.size = n := by simpa using h
    simp [sizeOf, typeInfo, hi, this, go_sem]
  · cases h
theorem run_load_agg {P : Program} {t : TypeId} {d : TypeDesc} (hu : P.underlying t = some d) (hd : (∃ f, d = .struct f) ∨ ∃ n e, d = .array n e) {w : World} {ad : Addr} {cs : Array Value} (hs : sizeIs P t cs.size = true) (h : RowAt w ad cs) :
    (loadVar t ad).run P w = .ok (.agg cs) w := by
  have hz := sizeIs_run hs w
  have hl : (loadCells ad cs.size).run P w = .ok cs w := by
    have := run_loadCells_list (P := P) (w := w) ad cs.toList (fun j v hj => h j v (by simpa using hj))
    simpa using this
  rcases hd with ⟨f, rfl⟩ | ⟨n, e, rfl⟩ <;> simp [loadVar, isAgg, run_underlying hu, hz, hl]
theorem run_load_one {P : Program} {t : TypeId} {d : TypeDesc} (hu : P.underlying t = some d) (h1 : ∀ f, d ≠ .struct f) (h2 : ∀ n e, d ≠ .array n e) {w : World} {ad : Addr} {v : Value} (h : w.cell? ad = some v) :
    (loadVar t ad).run P w = .ok v w := by
  have : (isAgg t).run P w = .ok false w := by
    simp only [isAgg]
    cases d <;> first | (exact absurd rfl (h1 _)) | (exact absurd rfl (h2 _ _)) | simp [run_underlying hu]
  simp [loadVar, this, load, Sem.run, h]
theorem add_zero (ad : Addr) : ad.add 0 = ad := by simp [Addr.add]
theorem run_storeRow {P : Program} {ad : Addr} : ∀ (vs : List Value) (i : Nat) (w : World), HasRow w ad i vs → (storeCells ad vs i).run P w = .ok () (setRow w ad i vs) := by
  intro vs
  induction vs with
  | nil => intro i w _; simp [storeCells, setRow]
  | cons v r ih =>
    intro i w ⟨hp, hh, hr⟩
    have := ih (i + 1) _ hr
    have e : (Sem.store Mode.plain (ad.add i) v (storeCells ad r (i + 1))).run P w = (storeCells ad r (i + 1)).run P (w.setCell (ad.add i) v) := run_store_plain hp hh
    simp only [storeCells, store, setRow]
    exact e.trans this
theorem plain_cells {v : Value} (h : Plain v) : v.cells = #[v] := by
  cases v <;> first | rfl | (simp [Plain, Value.oneCell'] at h)

def withV (s : Sem Value) : Sem Next := do pure (.value (← s))
def withU (s : Sem Unit) : Sem Next := do s; pure .skip
theorem withV_run {P : Program} {s : Sem Value} {w w' : World} {v : Value} (h : s.run P w = .ok v w') : (withV s).run P w = .ok (.value v) w' := by
  simp [withV, h]
theorem withU_run {P : Program} {s : Sem Unit} {w w' : World} (h : s.run P w = .ok () w') : (withU s).run P w = .ok .skip w' := by
  simp [withU, h]

theorem vcLoad_run {P : Program} {t : TypeId} {x : Value} {r : Ora} {w : World} {K : Value → Ora → World → Prop} (h : vcLoad P t x r w K) :
    ∃ v r', (Instr.loadAt t x).run P w = .ok v w ∧ K v r' w := by
  unfold vcLoad at h
  split at h
  · rename_i ad v r' 
    have hat : Instr.loadAt t (.pointer (some ad)) = loadVar t ad := rfl
    rw [hat]
    split at h
    · rename_i f hu
      split at h
      · rename_i cs
        cases hs : sizeIs P t cs.size
        · rw [hs] at h; exact h.elim
        · rw [hs] at h; exact ⟨_, _, run_load_agg hu (.inl ⟨_, rfl⟩) hs h.1, h.2⟩
      · exact h.elim
    · rename_i n e hu
      split at h
      · rename_i cs
        cases hs : sizeIs P t cs.size
        · rw [hs] at h; exact h.elim
        · rw [hs] at h; exact ⟨_, _, run_load_agg hu (.inr ⟨_, _, rfl⟩) hs h.1, h.2⟩
      · exact h.elim
    · rename_i d h1 h2 hu
      exact ⟨_, _, run_load_one hu (fun f e => h1 f (by rw [e])) (fun n f e => h2 n f (by rw [e])) h.1, h.2⟩
    · exact h.elim
  · exact h.elim
theorem vcLoad_ptr {P : Program} {t : TypeId} {x : Value} {r : Ora} {w : World} {K : Value → Ora → World → Prop} (h : vcLoad P t x r w K) : ∃ ad, x = .pointer (some ad) := by
  unfold vcLoad at h
  split at h
  · exact ⟨_, rfl⟩
  · exact h.elim
theorem vcStore_run {P : Program} {t : TypeId} {x v : Value} {w : World} {K : World → Prop} (h : vcStore P t x v w K) :
    ∃ w', (Instr.storeAt t x v).run P w = .ok () w' ∧ K w' := by
  unfold vcStore at h
  split at h
  · rename_i ad
    have hat : Instr.storeAt t (.pointer (some ad)) v = storeVar t ad v := rfl
    rw [hat]
    have agg : ∀ cs, v = .agg cs → sizeIs P t cs.size = true → HasRow w ad 0 cs.toList → (storeVar t ad v).run P w = .ok () (setRow w ad 0 cs.toList) := by
      intro cs hv hs hr
      subst hv
      have hz := sizeIs_run hs w
      have hst := run_storeRow (P := P) cs.toList 0 w hr
      simp [storeVar, Value.cells, hz, hst]
    split at h
    · split at h
      · rename_i cs
        cases hs : sizeIs P t cs.size
        · rw [hs] at h; exact h.elim
        · rw [hs] at h; exact ⟨_, agg cs rfl hs h.1, h.2 _ rfl⟩
      · exact h.elim
    · split at h
      · rename_i cs
        cases hs : sizeIs P t cs.size
        · rw [hs] at h; exact h.elim
        · rw [hs] at h; exact ⟨_, agg cs rfl hs h.1, h.2 _ rfl⟩
      · exact h.elim
    · cases hs : sizeIs P t 1
      · rw [hs] at h; exact h.elim
      · rw [hs] at h
        obtain ⟨hp, hh, hk⟩ := h
        have hz := sizeIs_run hs w
        have hst := run_storeRow (P := P) [v] 0 w ⟨hp, by rw [add_zero]; exact hh, trivial⟩
        simp only [setRow, add_zero] at hst
        exact ⟨_, by simp [storeVar, plain_cells hp, hz, hst], hk _ rfl⟩
    · exact h.elim
  · exact h.elim

/-! ### One operation -/
/-- What the operations that are run whole come to. -/
def prim (ρ : Operand → Value) (o : Oper) : Option (Sem Value) :=
  match o.op with
  | .load t a => some (Instr.loadAt t (ρ a))
  | .binOp op xType x y _ => some (do eqGuard op xType x y (ρ x) (ρ y); binOp op xType (ρ x) (ρ y))
  | .convert src dst x => some (convert src dst (ρ x))
  | .makeMap t r => some (Instr.makeMap t (r.map ρ))
  | .makeSlice t l c => some (Instr.makeSlice t (ρ l) (ρ c))
  | .slice t x lo hi mx => some (Instr.sliceAt t (ρ x) (lo.map ρ) (hi.map ρ) (mx.map ρ))
  | .indexAddr t x ix => some (Instr.indexAt t (ρ x) (ρ ix))
  | .index xType x ix => some (Instr.index xType (ρ x) (ρ ix))
  | .lookup xType x ix ok => some (Instr.lookup xType (ρ x) (ρ ix) ok)
  | .range xType x => some (Instr.range xType (ρ x))
  | .next it isString => some (Instr.next (ρ it) isString o.type)
  | .entry it => some (Instr.entry (ρ it))
  | .typeAssert x xType asserted ok => some (Instr.typeAssert (ρ x) xType asserted ok)
  | .call c =>
    match c.callee with
    | .builtin .append => some (Builtin.append_ c.argTypes o.type (c.args.map ρ))
    | .builtin .copy => some (Builtin.copy_ c.argTypes o.type (c.args.map ρ))
    | .builtin .len => some (Builtin.len_ c.argTypes o.type (c.args.map ρ))
    | .builtin .delete => some (Builtin.delete_ c.argTypes o.type (c.args.map ρ))
    | .builtin .min => some (Builtin.min_ c.argTypes o.type (c.args.map ρ))
    | .builtin .max => some (Builtin.max_ c.argTypes o.type (c.args.map ρ))
    | _ => none
  | _ => none
theorem prim_run {P : Program} {ρ : Operand → Value} {o : Oper} {s : Sem Value} {w w' : World} {v : Value} (h : prim ρ o = some s) (hr : s.run P w = .ok v w') : (execOp ρ o).run P w = .ok (.value v) w' := by
  have key : execOp ρ o = withV s := by
    unfold prim at h
    unfold execOp withV
    split at h <;> rename_i ho <;> simp only [ho]
    all_goals first
      | (cases h; rfl)
      | (split at h <;> rename_i hc <;> first | (cases h; simp only [resolve, hc, invoke, builtin]; rfl) | cases h)
      | cases h
  rw [key]
  exact withV_run hr

/-- An element's address: the index within the bounds. -/
def vcIdx (P : Program) (t : TypeId) (x i : Value) (r : Ora) (K : Value → Ora → Prop) : Prop :=
  match i with
  | .int _ n =>
    match P.underlying t with
    | some (.slice e) =>
      match x, P.info? e with
      | .slice A len _, some ie =>
        match r with
        | .tick r => (match A with | some ad => (0 ≤ n ∧ n < (len : Int)) ∧ K (.pointer (some (ad.add (n.toNat * ie.size)))) r | none => False)
        | .fork r _ => ∃ ad, A = some ad ∧ (0 ≤ n ∧ n < (len : Int)) ∧ K (.pointer (some (ad.add (n.toNat * ie.size)))) r
        | r => ∃ ad, A = some ad ∧ (0 ≤ n ∧ n < (len : Int)) ∧ K (.pointer (some (ad.add (n.toNat * ie.size)))) r
      | _, _ => False
    | some (.array len e) =>
      match x, P.info? e with
      | .pointer (some ad), some ie => (0 ≤ n ∧ n < (len : Int)) ∧ K (.pointer (some (ad.add (n.toNat * ie.size)))) r
      | _, _ => False
    | _ => False
  | _ => False
theorem vcIdx_run {P : Program} {t : TypeId} {x i : Value} {r : Ora} {K : Value → Ora → Prop} (h : vcIdx P t x i r K) :
    ∃ v r', (∀ w, (Instr.indexAt t x i).run P w = .ok v w) ∧ K v r' := by
  unfold vcIdx at h
  split at h
  · rename_i k n
    split at h
    · rename_i e hu
      split at h
      · rename_i A len c ie hie
        split at h
        · split at h
          · obtain ⟨hb, hk⟩ := h
            exact ⟨_, _, fun w => by simp [Instr.indexAt, run_underlying hu, asIntOf, sizeOf, typeInfo, hie, hb], hk⟩
          · exact h.elim
        · obtain ⟨ad, rfl, hb, hk⟩ := h
          exact ⟨_, _, fun w => by simp [Instr.indexAt, run_underlying hu, asIntOf, sizeOf, typeInfo, hie, hb], hk⟩
        · obtain ⟨ad, rfl, hb, hk⟩ := h
          exact ⟨_, _, fun w => by simp [Instr.indexAt, run_underlying hu, asIntOf, sizeOf, typeInfo, hie, hb], hk⟩
      · exact h.elim
    · rename_i len e hu
      split at h
      · rename_i ad ie hie
        obtain ⟨hb, hk⟩ := h
        exact ⟨_, _, fun w => by simp [Instr.indexAt, run_underlying hu, asIntOf, sizeOf, typeInfo, hie, hb, Instr.sureAddr], hk⟩
      · exact h.elim
    · exact h.elim
  · exact h.elim

def vcOp (P : Program) (o : Oper) (a : Act) (r : Ora) (w : World) (full : Prop) (next : Value → Ora → World → Prop) (after : Value → World → Prop) : Prop :=
  match r with
  | .stop => full
  | .wait n r =>
    match o.op with
    | .load _ _ => False
    | .store t x y => vcStore P t (a.eval x) (a.eval y) w (fun w' => next undef (Ora.less n r) w')
    | _ => semVc P (execOp a.eval o) .nil w (fun nx _ w' =>
        match nx with
        | .value v => next v (Ora.less n r) w'
        | .skip => next undef (Ora.less n r) w'
        | _ => False)
  | .run v r => match prim a.eval o with | some s => s.run P w = .ok v w ∧ next v r w | none => False
  | .runw => match prim a.eval o with | some s => ∃ v w', s.run P w = .ok v w' ∧ after v w' | none => False
  | .idx r => match o.op with | .indexAddr t x i => vcIdx P t (a.eval x) (a.eval i) r (fun v r => next v r w) | _ => False
  | r =>
    match o.op with
    | .load t x => vcLoad P t (a.eval x) r w next
    | .store t x y => vcStore P t (a.eval x) (a.eval y) w (fun w' => next undef r w')
    | _ => semVc P (execOp a.eval o) r w (fun nx r w' =>
        match nx with
        | .value v => next v r w'
        | .skip => next undef r w'
        | .enter f args => (match r with | .call => Calls P f args w' (fun e w'' => ∃ v, e = .returned v ∧ after v w'') | _ => False)
        | _ => False)

/-- Sound: the operation's own condition, whatever follows. -/
theorem vcOp_sound {P : Program} {o : Oper} {a : Act} {r : Ora} {w : World} {full : Prop} {next : Value → Ora → World → Prop} {after : Value → World → Prop}
    {N : Act → World → Prop} {Q : Exit → Act → World → Prop} (hfull : full → o.wp P a w N Q ∨ (o.asks P a w ∧ LetsOut Q)) (hnext : ∀ v r w, next v r w → N (a.put o.dst v) w) (hafter : ∀ v w, after v w → N (a.put o.dst v) w)
    (h : vcOp P o a r w full next after) : o.wp P a w N Q ∨ (o.asks P a w ∧ LetsOut Q) := by
  have val : ∀ v w', (execOp a.eval o).run P w = .ok (.value v) w' → N (a.put o.dst v) w' → o.wp P a w N Q := by
    intro v w' hr hn
    unfold Oper.wp
    rw [hr]
    exact hn
  have gen : ∀ r, (match o.op with
    | .load t x => vcLoad P t (a.eval x) r w next
    | .store t x y => vcStore P t (a.eval x) (a.eval y) w (fun w' => next undef r w')
    | _ => semVc P (execOp a.eval o) r w (fun nx r w' =>
        match nx with
        | .value v => next v r w'
        | .skip => next undef r w'
        | .enter f args => (match r with | .call => Calls P f args w' (fun e w'' => ∃ v, e = .returned v ∧ after v w'') | _ => False)
        | _ => False)) → o.wp P a w N Q := by
    intro r h
    split at h
    · rename_i t x ho
      obtain ⟨v, r', hr, hk⟩ := vcLoad_run h
      exact val v w (by
        have : execOp a.eval o = withV (Instr.loadAt t (a.eval x)) := by unfold execOp; simp only [ho]; rfl
        rw [this]; exact withV_run hr) (hnext _ _ _ hk)
    · rename_i t x y ho
      obtain ⟨w', hr, hk⟩ := vcStore_run h
      have : execOp a.eval o = withU (Instr.storeAt t (a.eval x) (a.eval y)) := by unfold execOp; simp only [ho]; rfl
      unfold Oper.wp
      rw [this, withU_run hr]
      exact hnext _ _ _ hk
    · obtain ⟨nx, r', w', hr, hk⟩ := semVc_run _ _ _ _ h
      unfold Oper.wp
      rw [hr]
      split at hk
      · exact hnext _ _ _ hk
      · exact hnext _ _ _ hk
      · split at hk
        · refine Calls.mono hk ?_
          rintro e w'' ⟨v, rfl, hv⟩
          exact hafter _ _ hv
        · exact hk.elim
      · exact hk.elim
  unfold vcOp at h
  split at h
  · exact hfull h
  · split at h
    · exact h.elim
    · rename_i t x y ho
      obtain ⟨w', hr, hk⟩ := vcStore_run h
      have : execOp a.eval o = withU (Instr.storeAt t (a.eval x) (a.eval y)) := by unfold execOp; simp only [ho]; rfl
      refine .inl ?_
      unfold Oper.wp
      rw [this, withU_run hr]
      exact hnext _ _ _ hk
    · obtain ⟨nx, r', w', hr, hk⟩ := semVc_run _ _ _ _ h
      refine .inl ?_
      unfold Oper.wp
      rw [hr]
      split at hk
      · exact hnext _ _ _ hk
      · exact hnext _ _ _ hk
      · exact hk.elim
  · split at h
    · rename_i s hs
      exact .inl (val _ _ (prim_run hs h.1) (hnext _ _ _ h.2))
    · exact h.elim
  · split at h
    · rename_i s hs
      obtain ⟨v, w', hr, hk⟩ := h
      exact .inl (val _ _ (prim_run hs hr) (hafter _ _ hk))
    · exact h.elim
  · split at h
    · rename_i t x i ho
      obtain ⟨v, r', hr, hk⟩ := vcIdx_run h
      exact .inl (val v w (by
        have : execOp a.eval o = withV (Instr.indexAt t (a.eval x) (a.eval i)) := by unfold execOp; simp only [ho]; rfl
        rw [this]; exact withV_run (hr w)) (hnext _ _ _ hk))
    · exact h.elim
  · exact .inl (gen _ h)

/-! ### Regions, code -/
def putC (a : Act) (c : Operand) (b : Bool) : Act := match c with | .tmp t => a.put (some t) (.bool b) | _ => a
theorem set_same {xs : Array Value} {d : Nat} {v : Value} (h : xs[d]? = some v) : xs.setIfInBounds d v = xs := by
  obtain ⟨hd, he⟩ := Array.getElem?_eq_some_iff.1 h
  apply Array.ext
  · rw [Array.size_setIfInBounds]
  · intro i h1 h2
    rw [Array.getElem_setIfInBounds h2]
    split
    · rename_i hi; subst hi; exact he.symm
    · rfl
theorem put_same {a : Act} {d : Tmp} {v : Value} (h : a.tmps[d]? = some v) : a.put (some d) v = a := by
  show { a with tmps := a.tmps.setIfInBounds d v } = a
  rw [set_same h]
theorem putC_same {a : Act} {c : Operand} {b : Bool} (h : a.eval c = .bool b) : putC a c b = a := by
  unfold putC
  split
  · rename_i t
    apply put_same
    simp only [Act.eval, Array.getD_eq_getD_getElem?] at h
    cases hx : a.tmps[t]? with
    | none => rw [hx] at h; simp [undef] at h
    | some v => rw [hx] at h; simpa using h
  · rfl
theorem yielded_same {ops : Array Oper} {a : Act} {j : Nat} {b : Bool} (h : yielded ops a.tmps j = some b) : a.put ((ops[j]?).bind (·.dst)) (.bool b) = a := by
  unfold yielded at h
  cases hd : (ops[j]?).bind (·.dst) with
  | none => rfl
  | some d =>
    rw [hd] at h
    apply put_same
    simp only [Option.bind_some] at h
    cases hx : a.tmps[d]? with
    | none => rw [hx] at h; cases h
    | some v => rw [hx] at h; cases v <;> simp at h; rw [h]

def vcOps (P : Program) (ops : Array Oper) (Q : Exit → Act → World → Prop) (Qo : Exit → Ora → Act → World → Prop) : List Oper → Ora → Act → World → Prop
  | [], r, a, w => Qo .normal r a w
  | o :: rest, r, a, w =>
    let go : Ora → Act → Prop := fun r a => vcOp P o a r w (wpList P ops Q (o :: rest) a w) (fun v r w => vcOps P ops Q Qo rest r (a.put o.dst v) w) (fun v w => wpList P ops Q rest (a.put o.dst v) w)
    let skip : Ora → Act → Prop := fun r a => vcOps P ops Q Qo rest r (a.put o.dst undef) w
    match o.guard with
    | none => go r a
    | some (j, want) =>
      match yielded ops a.tmps j with
      | none => skip r a
      | some b =>
        match r with
        | .fork r1 r2 => vIf b (bif want then go r1 (a.put ((ops[j]?).bind (·.dst)) (.bool true)) else skip r1 (a.put ((ops[j]?).bind (·.dst)) (.bool true)))
            (bif want then skip r2 (a.put ((ops[j]?).bind (·.dst)) (.bool false)) else go r2 (a.put ((ops[j]?).bind (·.dst)) (.bool false)))
        | .tick r => bif b == want then go r a else skip r a
        | .stop => wpList P ops Q (o :: rest) a w
        | _ => False

theorem vcOps_sound {P : Program} {ops : Array Oper} {Q : Exit → Act → World → Prop} {Qo : Exit → Ora → Act → World → Prop} (hQ : ∀ r a w, Qo .normal r a w → Q .normal a w) :
    ∀ (l : List Oper) (r : Ora) (a : Act) (w : World), vcOps P ops Q Qo l r a w → wpList P ops Q l a w := by
  intro l
  induction l with
  | nil => exact fun r a w h => hQ _ _ _ h
  | cons o rest ih =>
    intro r a w h
    have go : ∀ (f : Ora → Ora) r, Region.wanted o (yielded ops a.tmps) = true → vcOp P o a r w (wpList P ops Q (o :: rest) a w) (fun v r w => vcOps P ops Q Qo rest (f r) (a.put o.dst v) w) (fun v w => wpList P ops Q rest (a.put o.dst v) w) → wpList P ops Q (o :: rest) a w := by
      intro f r hw h
      unfold wpList
      rw [if_pos hw]
      refine vcOp_sound (N := wpList P ops Q rest) (Q := Q) (fun hf => ?_) (fun v r w hv => ih _ _ _ hv) (fun v w hv => hv) h
      unfold wpList at hf
      rwa [if_pos hw] at hf
    have skip : ∀ r, Region.wanted o (yielded ops a.tmps) = false → vcOps P ops Q Qo rest r (a.put o.dst undef) w → wpList P ops Q (o :: rest) a w := by
      intro r hw h
      unfold wpList
      rw [if_neg (by rw [hw]; exact Bool.false_ne_true)]
      exact ih _ _ _ h
    unfold vcOps at h
    split at h
    · rename_i hg
      exact go id _ (by simp [Region.wanted, hg]) h
    · rename_i j want hg
      have hwant : ∀ b, yielded ops a.tmps j = some b → Region.wanted o (yielded ops a.tmps) = (b == want) := by
        intro b hb
        simp only [Region.wanted, hg, hb]
        cases b <;> cases want <;> rfl
      split at h
      · rename_i hy
        exact skip _ (by simp [Region.wanted, hg, hy]) h
      · rename_i b hy
        have hs := yielded_same hy
        split at h
        · refine vIf_elim h (fun hb h => ?_) (fun hb h => ?_)
          · subst hb
            rw [hs] at h
            cases want
            · exact skip _ (hwant _ hy) h
            · exact go id _ (hwant _ hy) h
          · subst hb
            rw [hs] at h
            cases want
            · exact go id _ (hwant _ hy) h
            · exact skip _ (hwant _ hy) h
        · have := hwant _ hy
          cases hbw : (b == want)
          · rw [hbw] at h this; exact skip _ this h
          · rw [hbw] at h this; exact go id _ this h
        · exact h
        · exact h.elim

/-! ### Regions that draw their order -/
def pureOf (P : Program) : Sem Next → Option Value
  | .pure (.value v) => some v
  | .program k => pureOf P (k P)
  | .mark _ k => pureOf P k
  | _ => none
theorem pureOf_run {P : Program} (s : Sem Next) {v : Value} (h : pureOf P s = some v) (w : World) : s.run P w = .ok (.value v) w := by
  induction s with
  | pure a => cases a <;> simp [pureOf] at h; subst h; rfl
  | program k ih => exact ih P h
  | mark m k ih => exact ih h
  | _ => simp [pureOf] at h
/-! Orders: an operation may be taken first where what it reads lasts behind every operation that may come ahead of it. -/
def okLate1 (ops : Array Oper) (i : Nat) (js : List Nat) : Bool :=
  js.all (fun j => match ops[j]? with | some o => o.after.toList.any (fun e => Region.binds .any e && Nat.blt e.on j && (e.on == i || js.contains e.on)) | none => false)
/-- Facts that loads lean on: whose (numbers), behind which operations they need not last (each waits for all of them), what. -/
abbrev Facts := List (List Nat × List Nat × (World → Prop))
def okFacts (ops : Array Oper) : Facts → Bool
  | [] => true
  | (ks, js, _) :: l => ks.all (fun k => okLate1 ops k js) && okFacts ops l
theorem okFacts_of {ops : Array Oper} : ∀ {Fs : Facts}, okFacts ops Fs = true → ∀ e ∈ Fs, ∀ k ∈ e.1, okLate1 ops k e.2.1 = true := by
  intro Fs
  induction Fs with
  | nil => intro _ e he; cases he
  | cons p l ih =>
    obtain ⟨ks, js, f⟩ := p
    intro h e he k hk
    simp only [okFacts, Bool.and_eq_true] at h
    rcases List.mem_cons.1 he with rfl | he
    · exact List.all_eq_true.1 h.1 k hk
    · exact ih h.2 e he k hk
def AbsL : Facts → Nat → World → Prop
  | [], _, _ => True
  | (_, js, f) :: l, j, w => match js.contains j with | true => AbsL l j w | false => f w ∧ AbsL l j w
def AllL : Facts → World → Prop
  | [], _ => True
  | (_, _, f) :: l, w => f w ∧ AllL l w
theorem AbsL_of {j : Nat} {w : World} : ∀ {Fs : Facts}, AbsL Fs j w → ∀ e ∈ Fs, e.2.1.contains j = false → e.2.2 w := by
  intro Fs
  induction Fs with
  | nil => intro _ e he; cases he
  | cons p l ih =>
    obtain ⟨ks, js, f⟩ := p
    intro h e he hc
    unfold AbsL at h
    split at h
    · rename_i hj
      rcases List.mem_cons.1 he with rfl | he
      · rw [hj] at hc; cases hc
      · exact ih h e he hc
    · rcases List.mem_cons.1 he with rfl | he
      · exact h.1
      · exact ih h.2 e he hc
theorem AllL_of {w : World} : ∀ {Fs : Facts}, AllL Fs w → ∀ e ∈ Fs, e.2.2 w := by
  intro Fs
  induction Fs with
  | nil => intro _ e he; cases he
  | cons p l ih =>
    obtain ⟨ks, js, f⟩ := p
    intro h e he
    rcases List.mem_cons.1 he with rfl | he
    · exact h.1
    · exact ih h.2 e he
def factOf : Facts → Nat → Option (World → Prop)
  | [], _ => none
  | (ks, _, f) :: l, i => bif ks.contains i then some f else factOf l i
theorem factOf_mem {i : Nat} {f : World → Prop} : ∀ {Fs : Facts}, factOf Fs i = some f → ∃ ks js, (ks, js, f) ∈ Fs ∧ i ∈ ks := by
  intro Fs
  induction Fs with
  | nil => intro h; cases h
  | cons p l ih =>
    obtain ⟨ks, js, g⟩ := p
    intro h
    unfold factOf at h
    cases hc : ks.contains i
    · rw [hc] at h
      obtain ⟨ks', js', hm, hi⟩ := ih h
      exact ⟨ks', js', List.mem_cons_of_mem _ hm, hi⟩
    · rw [hc] at h
      cases h
      exact ⟨ks, js, by simp, by simpa using hc⟩
def Closed (ops : Array Oper) (listed : Array Bool) : Prop := ∀ j o, ops[j]? = some o → listed.getD j false = true → ∀ e ∈ o.after, Region.binds .any e = true → listed.getD e.on false = true
def closedB (ops : Array Oper) (listed : Array Bool) : Bool :=
  (List.range ops.size).all (fun j => match ops[j]? with | some o => !(listed.getD j false) || o.after.toList.all (fun e => !(Region.binds .any e) || listed.getD e.on false) | none => true)
theorem closed_of {ops : Array Oper} {listed : Array Bool} (h : closedB ops listed = true) : Closed ops listed := by
  intro j o ho hl e he hb
  have hj : j < ops.size := (Array.getElem?_eq_some_iff.1 ho).1
  have := List.all_eq_true.1 h j (List.mem_range.2 hj)
  rw [ho] at this
  simp only [hl, Bool.not_true, Bool.false_or] at this
  have := List.all_eq_true.1 this e (by simpa using he)
  simpa [hb] using this
theorem getD_set_same {listed : Array Bool} {i : Nat} (h : i < listed.size) : (listed.setIfInBounds i true).getD i false = true := by simp [h]
theorem getD_ff {listed : Array Bool} {i : Nat} (h : listed.getD i true = false) : listed.getD i false = false ∧ i < listed.size := by
  by_cases hi : i < listed.size
  · refine ⟨?_, hi⟩
    simpa [hi] using h
  · simp [hi] at h
theorem Closed.set {ops : Array Oper} {listed : Array Bool} {i : Nat} (h : Closed ops listed) (hr : i ∈ Region.ready .any ops listed) : Closed ops (listed.setIfInBounds i true) := by
  intro j o ho hl e he hb
  obtain ⟨hu, oi, hoi, hall⟩ := mem_ready.1 hr
  have hsz := (getD_ff hu).2
  have key : listed.getD e.on false = true → (listed.setIfInBounds i true).getD e.on false = true := fun hk => by
    by_cases hie : i = e.on
    · rw [← hie]; exact getD_set_same hsz
    · rw [getD_set_ne false hie]; exact hk
  by_cases hji : j = i
  · subst hji
    rw [hoi] at ho
    cases ho
    exact key (hall e he hb)
  · rw [getD_set_ne false (Ne.symm hji)] at hl
    exact key (h j o ho hl e he hb)
theorem late_off {ops : Array Oper} {listed : Array Bool} {i : Nat} {js : List Nat} (hc : Closed ops listed) (ok : okLate1 ops i js = true) (hu : listed.getD i true = false) : ∀ j, j ∈ js → listed.getD j false = false := by
  intro j
  induction j using Nat.strongRecOn with
  | ind j ih =>
    intro hj
    have := List.all_eq_true.1 ok j hj
    split at this
    · rename_i o ho
      obtain ⟨e, he, hb⟩ := List.any_eq_true.1 this
      simp only [Bool.and_eq_true, Bool.or_eq_true, Nat.blt_eq] at hb
      obtain ⟨⟨hb1, hb2⟩, hb3⟩ := hb
      cases hl : listed.getD j false
      · rfl
      · have h1 := hc j o ho hl e (by simpa using he) hb1
        rcases hb3 with hb3 | hb3
        · have e0 : e.on = i := by simpa using hb3
          rw [e0, (getD_ff hu).1] at h1
          cases h1
        · have := ih e.on hb2 (by simpa using hb3)
          rw [this] at h1
          cases h1
    · cases this
theorem ready_notlate {ops : Array Oper} {listed : Array Bool} {i j : Nat} {js : List Nat} (hc : Closed ops listed) (ok : okLate1 ops i js = true) (hu : listed.getD i true = false) (hr : j ∈ Region.ready .any ops listed) : js.contains j = false := by
  cases h : js.contains j
  · rfl
  · have hj : j ∈ js := by simpa using h
    obtain ⟨_, oj, hoj, hall⟩ := mem_ready.1 hr
    have := List.all_eq_true.1 ok j hj
    rw [hoj] at this
    obtain ⟨e, he, hb⟩ := List.any_eq_true.1 this
    simp only [Bool.and_eq_true, Bool.or_eq_true, Nat.blt_eq] at hb
    obtain ⟨⟨hb1, hb2⟩, hb3⟩ := hb
    have h1 := hall e (by simpa using he) hb1
    rcases hb3 with hb3 | hb3
    · have e0 : e.on = i := by simpa using hb3
      rw [e0, (getD_ff hu).1] at h1
      cases h1
    · have := late_off hc ok hu e.on (by simpa using hb3)
      rw [this] at h1
      cases h1
def Pres (Fs : Facts) (j : Nat) (w w' : World) : Prop := ∀ e ∈ Fs, e.2.1.contains j = false → e.2.2 w → e.2.2 w'
/-- Whatever order is picked from here on; every operation keeps the facts that it must keep. -/
def wpAnyG (P : Program) (ops : Array Oper) (Q : Exit → Act → World → Prop) (Fs : Facts) : Nat → Array Bool → Act → World → Prop
  | 0, listed, a, w => Region.ready .any ops listed = [] ∧ Q .normal a w
  | fuel + 1, listed, a, w =>
    (Region.ready .any ops listed = [] → Q .normal a w) ∧
    ∀ i ∈ Region.ready .any ops listed, wpOp P ops Q i (fun a' w' => Pres Fs i w w' ∧ wpAnyG P ops Q Fs fuel (listed.setIfInBounds i true) a' w') a w
theorem wpAny_of_G {P : Program} {ops : Array Oper} {Q : Exit → Act → World → Prop} {Fs : Facts} : ∀ (fuel : Nat) (listed : Array Bool) (a : Act) (w : World), wpAnyG P ops Q Fs fuel listed a w → wpAny P .any ops Q fuel listed a w
  | 0, _, _, _, h => h
  | fuel + 1, _, _, _, h => ⟨h.1, fun i hi => wpOp_mono (fun a' w' h' => wpAny_of_G fuel _ a' w' h'.2) (h.2 i hi)⟩
theorem wpAnyG_first {P : Program} {ops : Array Oper} {Q : Exit → Act → World → Prop} {Fs : Facts} {i : Nat} {oi : Oper} {v : Value} {js : List Nat} {f : World → Prop} (hi : ops[i]? = some oi) (hsel : ∀ (j : Nat) (o : Oper) cs b, ops[j]? = some o → o.op ≠ .select cs b)
    (hQ : ∀ c a w, Q (.panic c) (a.put oi.dst v) w → Q (.panic c) a w) (ok : okLate1 ops i js = true) (hm : (∃ ks, (ks, js, f) ∈ Fs) ∨ ∀ w, f w) :
    ∀ (fuel : Nat) (listed : Array Bool) (a : Act) (w : World),
      (∀ j oj, ops[j]? = some oj → j ≠ i → listed.getD j true = false → (∀ e ∈ oj.after, Region.binds .any e = true → e.on ≠ i) → oi.apart ops oj = true) →
      i ∈ Region.ready .any ops listed → Closed ops listed → YieldsIf P ops f oi v a → f w →
      wpAnyG P ops Q Fs fuel (listed.setIfInBounds i true) (a.put oi.dst v) w → wpAnyG P ops Q Fs (fuel + 1) listed a w := by
  intro fuel
  induction fuel with
  | zero =>
    intro listed a w _ hr _ hy hf H
    refine ⟨fun h => (by rw [h] at hr; cases hr), fun j hj => ?_⟩
    by_cases hji : j = i
    · subst hji; exact hy.wpOp hi hf ⟨fun _ _ _ h => h, H⟩
    · have := ready_mono hj hji
      rw [H.1] at this
      cases this
  | succ fuel ih =>
    intro listed a w hfree hr hcl hy hf H
    refine ⟨fun h => (by rw [h] at hr; cases hr), fun j hj => ?_⟩
    by_cases hji : j = i
    · subst hji; exact hy.wpOp hi hf ⟨fun _ _ _ h => h, H⟩
    · have h1 := H.2 j (ready_mono hj hji)
      obtain ⟨hjun, oj, hoj, hall⟩ := mem_ready.1 hj
      have hnot : ∀ e ∈ oj.after, Region.binds .any e = true → e.on ≠ i := fun e he hb heq => by
        have h1 := hall e he hb
        have h0 := (mem_ready.1 hr).1
        rw [heq, (getD_ff h0).1] at h1
        cases h1
      have h2 := wpOp_putIf hoj (hfree j oj hoj hji hjun hnot) (fun cs b => hsel i oi cs b hi) (fun cs b => hsel j oj cs b hoj) hQ hy h1
      have hfree' : ∀ k ok, ops[k]? = some ok → k ≠ i → (listed.setIfInBounds j true).getD k true = false →
          (∀ e ∈ ok.after, Region.binds .any e = true → e.on ≠ i) → oi.apart ops ok = true := fun k ok hk hki hun hno => by
        refine hfree k ok hk hki ?_ hno
        by_cases hjk : j = k
        · subst hjk; exact hjun
        · rw [getD_set_ne true hjk] at hun; exact hun
      refine wpOp_mono (fun a' w' h3 => ⟨h3.2.1, ih (listed.setIfInBounds j true) a' w' hfree' (ready_mono hr (Ne.symm hji)) (hcl.set hj) h3.1 ?_ ?_⟩) h2
      · rcases hm with ⟨ks, hm⟩ | hm
        · exact h3.2.1 _ hm (ready_notlate hcl ok (mem_ready.1 hr).1 hj) hf
        · exact hm w'
      · rw [Array.setIfInBounds_comm _ _ hji]
        exact h3.2.2
theorem wpAnyG_done {P : Program} {ops : Array Oper} {Q : Exit → Act → World → Prop} {Fs : Facts} {listed : Array Bool} {a : Act} {w : World} (hr : Region.ready .any ops listed = []) (h : Q .normal a w) :
    ∀ fuel, wpAnyG P ops Q Fs fuel listed a w
  | 0 => ⟨hr, h⟩
  | _ + 1 => ⟨fun _ => h, by rw [hr]; simp⟩
def InvF (Fs : Facts) (listed : Array Bool) (w : World) : Prop := ∀ e ∈ Fs, (∃ k ∈ e.1, listed.getD k true = false) → e.2.2 w
theorem getD_unset {listed : Array Bool} {j k : Nat} (h : (listed.setIfInBounds j true).getD k true = false) : listed.getD k true = false := by
  by_cases hjk : j = k
  · subst hjk
    by_cases hs : j < listed.size
    · simp [hs] at h
    · simp [hs] at h
  · rwa [getD_set_ne true hjk] at h
theorem InvF.step {ops : Array Oper} {Fs : Facts} {listed : Array Bool} {w : World} {j : Nat} (hcl : Closed ops listed) (ok : okFacts ops Fs = true) (hj : j ∈ Region.ready .any ops listed) (h : AbsL Fs j w) : InvF Fs (listed.setIfInBounds j true) w :=
  fun e he ⟨k, hk, hu⟩ => AbsL_of h e he (ready_notlate hcl (okFacts_of ok e he k hk) (getD_unset hu) hj)
theorem InvF.take {Fs : Facts} {listed : Array Bool} {w : World} {j : Nat} (h : InvF Fs listed w) : InvF Fs (listed.setIfInBounds j true) w :=
  fun e he ⟨k, hk, hu⟩ => h e he ⟨k, hk, getD_unset hu⟩
def vcGuard (ops : Array Oper) (o : Oper) (r : Ora) (a : Act) (go skip : Ora → Act → Prop) : Prop :=
  match o.guard with
  | none => go r a
  | some (j, want) =>
    match yielded ops a.tmps j with
    | none => skip r a
    | some b =>
      match r with
      | .fork r1 r2 => vIf b (bif want then go r1 (a.put ((ops[j]?).bind (·.dst)) (.bool true)) else skip r1 (a.put ((ops[j]?).bind (·.dst)) (.bool true)))
          (bif want then skip r2 (a.put ((ops[j]?).bind (·.dst)) (.bool false)) else go r2 (a.put ((ops[j]?).bind (·.dst)) (.bool false)))
      | .tick r => bif b == want then go r a else skip r a
      | _ => False
theorem vcGuard_sound {ops : Array Oper} {o : Oper} {r : Ora} {a : Act} {go skip : Ora → Act → Prop} (h : vcGuard ops o r a go skip) :
    (Region.wanted o (yielded ops a.tmps) = true ∧ ∃ r, go r a) ∨ (Region.wanted o (yielded ops a.tmps) = false ∧ ∃ r, skip r a) := by
  unfold vcGuard at h
  split at h
  · rename_i hg
    exact .inl ⟨by simp [Region.wanted, hg], _, h⟩
  · rename_i j want hg
    have hwant : ∀ b, yielded ops a.tmps j = some b → Region.wanted o (yielded ops a.tmps) = (b == want) := by
      intro b hb
      simp only [Region.wanted, hg, hb]
      cases b <;> cases want <;> rfl
    split at h
    · rename_i hy
      exact .inr ⟨by simp [Region.wanted, hg, hy], _, h⟩
    · rename_i b hy
      have hs := yielded_same hy
      have hw := hwant _ hy
      split at h
      · refine vIf_elim h (fun hb h => ?_) (fun hb h => ?_)
        · subst hb
          rw [hs] at h
          cases want
          · exact .inr ⟨hw, _, h⟩
          · exact .inl ⟨hw, _, h⟩
        · subst hb
          rw [hs] at h
          cases want
          · exact .inl ⟨hw, _, h⟩
          · exact .inr ⟨hw, _, h⟩
      · cases hbw : (b == want)
        · rw [hbw] at h hw; exact .inr ⟨hw, _, h⟩
        · rw [hbw] at h hw; exact .inl ⟨hw, _, h⟩
      · exact h.elim
/-- An operation that yields its value in every world that meets what it leans on. -/
def vcTake (P : Program) (Fs : Facts) (i : Nat) (o : Oper) (r : Ora) (a : Act) (next : Value → Ora → Prop) : Prop :=
  match o.op with
  | .load t x =>
    match a.eval x, r, factOf Fs i with
    | .pointer (some ad), .cell v r, some f =>
      match P.underlying t with
      | some (.struct _) => match v with | .agg cs => (bif sizeIs P t cs.size then (∀ w, f w → RowAt w ad cs) ∧ next v r else False) | _ => False
      | some (.array _ _) => match v with | .agg cs => (bif sizeIs P t cs.size then (∀ w, f w → RowAt w ad cs) ∧ next v r else False) | _ => False
      | some _ => (∀ w, f w → w.cell? ad = some v) ∧ next v r
      | none => False
    | _, _, _ => False
  | .indexAddr t x i =>
    match r with
    | .idx r => vcIdx P t (a.eval x) (a.eval i) r next
    | r => match pureOf P (execOp a.eval o) with | some v => next v r | none => False
  | _ => match pureOf P (execOp a.eval o) with | some v => next v r | none => False
theorem vcTake_sound {P : Program} {Fs : Facts} {i : Nat} {o : Oper} {r : Ora} {a : Act} {next : Value → Ora → Prop} (h : vcTake P Fs i o r a next) : ∃ v f, (factOf Fs i = some f ∨ ∀ w, f w) ∧ (∀ w, f w → (execOp a.eval o).run P w = .ok (.value v) w) ∧ ∃ r, next v r := by
  unfold vcTake at h
  split at h
  · rename_i t x ho
    have he : execOp a.eval o = withV (Instr.loadAt t (a.eval x)) := by unfold execOp; simp only [ho]; rfl
    split at h
    · rename_i ad v r' f hx hf
      have hl : Instr.loadAt t (a.eval x) = loadVar t ad := by rw [hx]; rfl
      rw [he, hl]
      split at h
      · rename_i fd hu
        split at h
        · rename_i cs
          cases hs : sizeIs P t cs.size
          · rw [hs] at h; exact h.elim
          · rw [hs] at h; exact ⟨_, f, .inl hf, fun w hw => withV_run (run_load_agg hu (.inl ⟨_, rfl⟩) hs (h.1 w hw)), _, h.2⟩
        · exact h.elim
      · rename_i n e hu
        split at h
        · rename_i cs
          cases hs : sizeIs P t cs.size
          · rw [hs] at h; exact h.elim
          · rw [hs] at h; exact ⟨_, f, .inl hf, fun w hw => withV_run (run_load_agg hu (.inr ⟨_, _, rfl⟩) hs (h.1 w hw)), _, h.2⟩
        · exact h.elim
      · rename_i d h1 h2 hu
        exact ⟨_, f, .inl hf, fun w hw => withV_run (run_load_one hu (fun f e => h1 f (by rw [e])) (fun n f e => h2 n f (by rw [e])) (h.1 w hw)), _, h.2⟩
      · exact h.elim
    · exact h.elim
  · rename_i t x i ho
    split at h
    · obtain ⟨v, r', hr, hk⟩ := vcIdx_run h
      have he : execOp a.eval o = withV (Instr.indexAt t (a.eval x) (a.eval i)) := by unfold execOp; simp only [ho]; rfl
      rw [he]
      exact ⟨v, fun _ => True, .inr fun _ => trivial, fun w _ => withV_run (hr w), _, hk⟩
    · split at h
      · rename_i v hv
        exact ⟨v, fun _ => True, .inr fun _ => trivial, fun w _ => pureOf_run _ hv w, _, h⟩
      · exact h.elim
  · split at h
    · rename_i v hv
      exact ⟨v, fun _ => True, .inr fun _ => trivial, fun w _ => pureOf_run _ hv w, _, h⟩
    · exact h.elim

def takeable (ops : Array Oper) (tk : List Nat) (listed : Array Bool) : Option Nat := (Region.ready .any ops listed).find? (fun i => tk.contains i && Region.free .any ops listed i)
def vcAny (P : Program) (ops : Array Oper) (Q : Exit → Act → World → Prop) (Fs : Facts) (Qo : Exit → Ora → Act → World → Prop) (tk : List Nat) : Nat → Array Bool → Ora → Act → World → Prop
  | 0, listed, r, a, w => match Region.ready .any ops listed with | [] => Qo .normal r a w | _ => False
  | fuel + 1, listed, r, a, w =>
    let eff : Nat → Ora → Prop := fun i r =>
      match ops[i]? with
      | some o => vcGuard ops o r a
          (fun r a => vcOp P o a r w False (fun v r w => AbsL Fs i w ∧ vcAny P ops Q Fs Qo tk fuel (listed.setIfInBounds i true) r (a.put o.dst v) w) (fun v w => AbsL Fs i w ∧ wpAnyG P ops (NoPanic Q) Fs fuel (listed.setIfInBounds i true) (a.put o.dst v) w))
          (fun r a => vcAny P ops Q Fs Qo tk fuel (listed.setIfInBounds i true) r (a.put o.dst undef) w)
      | none => False
    match takeable ops tk listed with
    | some i =>
      match ops[i]? with
      | some o => vcGuard ops o r a (fun r a => vcTake P Fs i o r a (fun v r => vcAny P ops Q Fs Qo tk fuel (listed.setIfInBounds i true) r (a.put o.dst v) w)) (fun r a => vcAny P ops Q Fs Qo tk fuel (listed.setIfInBounds i true) r (a.put o.dst undef) w)
      | none => False
    | none =>
      match Region.ready .any ops listed with
      | [] => Qo .normal r a w
      | [i] => eff i r
      | [i, j] => match r with | .fork r1 r2 => eff i r1 ∧ eff j r2 | _ => False
      | [i, j, k] => match r with | .fork r1 (.fork r2 r3) => eff i r1 ∧ eff j r2 ∧ eff k r3 | _ => False
      | _ => False
theorem pres_abs {Fs : Facts} {j : Nat} {w w' : World} (h : AbsL Fs j w') : Pres Fs j w w' := fun e he hc _ => AbsL_of h e he hc
theorem vcAny_sound {P : Program} {ops : Array Oper} {Q : Exit → Act → World → Prop} {Fs : Facts} {Qo : Exit → Ora → Act → World → Prop} {tk : List Nat} (hs : Region.noSelect ops = true) (ok : okFacts ops Fs = true) (hQ : ∀ r a w, Qo .normal r a w → Q .normal a w) :
    ∀ (fuel : Nat) (listed : Array Bool) (r : Ora) (a : Act) (w : World), Closed ops listed → InvF Fs listed w → vcAny P ops Q Fs Qo tk fuel listed r a w → wpAnyG P ops (NoPanic Q) Fs fuel listed a w := by
  intro fuel
  induction fuel with
  | zero =>
    intro listed r a w _ _ h
    unfold vcAny at h
    split at h
    · rename_i hr
      exact ⟨hr, hQ _ _ _ h⟩
    · exact h.elim
  | succ fuel ih =>
    intro listed r a w hcl hinv h
    unfold vcAny at h
    have eff : ∀ i r, i ∈ Region.ready .any ops listed → (match ops[i]? with
      | some o => vcGuard ops o r a
          (fun r a => vcOp P o a r w False (fun v r w => AbsL Fs i w ∧ vcAny P ops Q Fs Qo tk fuel (listed.setIfInBounds i true) r (a.put o.dst v) w) (fun v w => AbsL Fs i w ∧ wpAnyG P ops (NoPanic Q) Fs fuel (listed.setIfInBounds i true) (a.put o.dst v) w))
          (fun r a => vcAny P ops Q Fs Qo tk fuel (listed.setIfInBounds i true) r (a.put o.dst undef) w)
      | none => False) → wpOp P ops (NoPanic Q) i (fun a' w' => Pres Fs i w w' ∧ wpAnyG P ops (NoPanic Q) Fs fuel (listed.setIfInBounds i true) a' w') a w := by
      intro i r hir h
      split at h
      · rename_i o ho
        unfold wpOp
        rw [ho]
        rcases vcGuard_sound h with ⟨hw, r, h⟩ | ⟨hw, r, h⟩
        · simp only [hw, if_true]
          exact vcOp_sound (N := fun a' w' => Pres Fs i w w' ∧ wpAnyG P ops (NoPanic Q) Fs fuel (listed.setIfInBounds i true) a' w') (fun hf => hf.elim) (fun v r w hv => ⟨pres_abs hv.1, ih _ _ _ _ (hcl.set hir) (InvF.step hcl ok hir hv.1) hv.2⟩) (fun v w hv => ⟨pres_abs hv.1, hv.2⟩) h
        · simp only [hw]
          exact ⟨fun _ _ _ h => h, ih _ _ _ _ (hcl.set hir) hinv.take h⟩
      · exact h.elim
    split at h
    · rename_i i hi
      split at h
      · rename_i o ho
        have hp := List.find?_some hi
        have hm := List.mem_of_find?_eq_some hi
        simp only [Bool.and_eq_true] at hp
        rcases vcGuard_sound h with ⟨hw, r, h⟩ | ⟨hw, r, h⟩
        · obtain ⟨v, f, hf, hv, r, hk⟩ := vcTake_sound h
          have hu := (mem_ready.1 hm).1
          have key : ∃ js, okLate1 ops i js = true ∧ ((∃ ks, (ks, js, f) ∈ Fs) ∨ ∀ w, f w) ∧ f w := by
            rcases hf with hf | hf
            · obtain ⟨ks, js, hmem, hik⟩ := factOf_mem hf
              exact ⟨js, okFacts_of ok _ hmem i hik, .inl ⟨ks, hmem⟩, hinv _ hmem ⟨i, hik, hu⟩⟩
            · exact ⟨[], rfl, .inr hf, hf w⟩
          obtain ⟨js, h1, h2, h3⟩ := key
          exact wpAnyG_first (Q := NoPanic Q) ho (Region.noSelect_spec hs) (fun c a w hf => hf) h1 h2 fuel listed a w (Region.free_spec ho hp.2) hm hcl (.inl ⟨hw, hv⟩) h3 (ih _ _ _ _ (hcl.set hm) hinv.take hk)
        · exact wpAnyG_first (Q := NoPanic Q) (f := fun _ => True) (js := []) ho (Region.noSelect_spec hs) (fun c a w hf => hf) rfl (.inr fun _ => trivial) fuel listed a w (Region.free_spec ho hp.2) hm hcl (.inr ⟨hw, rfl⟩) trivial (ih _ _ _ _ (hcl.set hm) hinv.take h)
      · exact h.elim
    · split at h
      · rename_i hr
        exact wpAnyG_done (Q := NoPanic Q) hr (hQ _ _ _ h) _
      · rename_i i hr
        exact ⟨fun h0 => by rw [h0] at hr; simp at hr, hr ▸ (fun j hj => by simp at hj; subst hj; exact eff _ _ (hr ▸ by simp) h)⟩
      · rename_i i j hr
        split at h
        · exact ⟨fun h0 => by rw [h0] at hr; simp at hr, hr ▸ (fun x hx => by
            simp at hx
            rcases hx with rfl | rfl
            · exact eff _ _ (hr ▸ by simp) h.1
            · exact eff _ _ (hr ▸ by simp) h.2)⟩
        · exact h.elim
      · rename_i i j k hr
        split at h
        · exact ⟨fun h0 => by rw [h0] at hr; simp at hr, hr ▸ (fun x hx => by
            simp at hx
            rcases hx with rfl | rfl | rfl
            · exact eff _ _ (hr ▸ by simp) h.1
            · exact eff _ _ (hr ▸ by simp) h.2.1
            · exact eff _ _ (hr ▸ by simp) h.2.2)⟩
        · exact h.elim
      · exact h.elim
def vcDraw (P : Program) (ops : Array Oper) (Q : Exit → Act → World → Prop) (Qo : Exit → Ora → Act → World → Prop) (Fs : Facts) (tk : List Nat) (r : Ora) (a : Act) (w : World) : Prop :=
  bif P.follows .mixedOrders && Region.noSelect ops && okFacts ops Fs then ∀ w1, w1 = w.drew → AllL Fs w1 ∧ vcAny P ops Q Fs Qo tk ops.size (Array.replicate ops.size false) r a w1 else False
theorem vcDraw_sound {P : Program} {id : Nat} {ops : Array Oper} {Q : Exit → Act → World → Prop} {Qo : Exit → Ora → Act → World → Prop} {Fs : Facts} {tk : List Nat} {r : Ora} {a : Act} {w : World} (hQ : ∀ r a w, Qo .normal r a w → Q .normal a w)
    (h : vcDraw P ops Q Qo Fs tk r a w) : (Code.region id ops true).wp P Q a w := by
  unfold vcDraw at h
  cases hb : (P.follows .mixedOrders && Region.noSelect ops && okFacts ops Fs)
  · rw [hb] at h; exact h.elim
  · rw [hb] at h
    simp only [Bool.and_eq_true] at hb
    obtain ⟨hS, h⟩ := h _ rfl
    refine wp_region_noPanic (wp_region_any hb.1.1 (wpAny_of_G _ _ _ _ (vcAny_sound hb.1.2 hb.2 hQ _ _ _ _ _ (fun j o _ hl => ?_) (fun e he _ => AllL_of hS e he) h)))
    by_cases hj : j < ops.size <;> simp [hj] at hl

def vc (P : Program) : Code → (Exit → Act → World → Prop) → (Exit → Ora → Act → World → Prop) → Ora → Act → World → Prop
  | .skip, _, Qo, r, a, w => Qo .normal r a w
  | .label _, _, Qo, r, a, w => Qo .normal r a w
  | .exit id, _, Qo, r, a, w => Qo (.exit id) r a w
  | .ret, _, Qo, r, a, w => Qo .ret r a w
  | .region id ops draw, Q, Qo, r, a, w => bif draw then (match r with | .draw Fs tk r => vcDraw P ops Q Qo Fs tk r a w | _ => (Code.region id ops true).wp P Q a w) else vcOps P ops Q Qo ops.toList r a w
  | .seq x y, Q, Qo, r, a, w => vc P x (Exit.then (y.wp P Q) Q) (fun e r a w => match e with | .normal => vc P y Q Qo r a w | e => Qo e r a w) r a w
  | .cond c x y, Q, Qo, r, a, w =>
    match a.eval c with
    | .bool b =>
      match r with
      | .fork r1 r2 => vIf b (vc P x Q Qo r1 (putC a c true) w) (vc P y Q Qo r2 (putC a c false) w)
      | .tick r => bif b then vc P x Q Qo r a w else vc P y Q Qo r a w
      | .stop => (Code.cond c x y).wp P Q a w
      | _ => False
    | _ => False
  | .block id x, Q, Qo, r, a, w => vc P x (Exit.inBlock id Q) (fun e r a w => match e with | .exit id' => bif id' == id then Qo .normal r a w else Qo (.exit id') r a w | e => Qo e r a w) r a w
  | .loop x, Q, _, _, a, w => (Code.loop x).wp P Q a w
  | c, Q, _, _, a, w => c.wp P Q a w

theorem vc_sound {P : Program} : ∀ (c : Code) {Q : Exit → Act → World → Prop} {Qo : Exit → Ora → Act → World → Prop} (_ : ∀ e r a w, Qo e r a w → Q e a w) (r : Ora) (a : Act) (w : World), vc P c Q Qo r a w → c.wp P Q a w := by
  intro c
  induction c with
  | skip => exact fun hQ r a w h => wp_skip (hQ _ _ _ _ h)
  | label l => exact fun hQ r a w h => wp_label (hQ _ _ _ _ h)
  | exit id => exact fun hQ r a w h => wp_exit (hQ _ _ _ _ h)
  | ret => exact fun hQ r a w h => wp_ret (hQ _ _ _ _ h)
  | region id ops draw =>
    intro Q Qo hQ r a w h
    cases draw
    · exact wp_region_list (vcOps_sound (fun r a w => hQ _ r a w) _ _ _ _ h)
    · unfold vc at h
      simp only [cond_true] at h
      split at h
      · exact vcDraw_sound (fun r a w => hQ _ r a w) h
      · exact h
  | seq x y ihx ihy =>
    intro Q Qo hQ r a w h
    refine wp_seq (ihx ?_ r a w h)
    intro e r a w h
    cases e with
    | normal => exact ihy hQ _ _ _ h
    | _ => exact hQ _ _ _ _ h
  | cond c x y ihx ihy =>
    intro Q Qo hQ r a w h
    unfold vc at h
    split at h
    · rename_i b hb
      split at h
      · refine vIf_elim h (fun e h => ?_) (fun e h => ?_)
        · subst e
          rw [putC_same hb] at h
          exact wp_cond_true hb (ihx hQ _ _ _ h)
        · subst e
          rw [putC_same hb] at h
          exact wp_cond_false hb (ihy hQ _ _ _ h)
      · cases b
        · exact wp_cond_false hb (ihy hQ _ _ _ h)
        · exact wp_cond_true hb (ihx hQ _ _ _ h)
      · exact h
      · exact h.elim
    · exact h.elim
  | block id x ih =>
    intro Q Qo hQ r a w h
    refine wp_block (ih ?_ r a w h)
    intro e r a w h
    cases e with
    | exit id' =>
      simp only [Exit.inBlock]
      by_cases hi : id' = id
      · rw [if_pos hi]; subst hi; simp at h; exact hQ _ _ _ _ h
      · rw [if_neg hi]
        have e : (id' == id) = false := by simpa using hi
        simp only [e, cond_false] at h
        exact hQ _ _ _ _ h
    | _ => exact hQ _ _ _ _ h
  | loop x ih => exact fun hQ r a w h => h
  | rangeFunc => exact fun hQ r a w h => h
  | scope => exact fun hQ r a w h => h
  | goto => exact fun hQ r a w h => h
  | refuse => exact fun hQ r a w h => h

/-! ### A function's results -/
def oneOrTuple : List Value → Value | [v] => v | l => .tuple l.toArray
def vcRes (P : Program) (tmps : Array Value) : List ResultVar → List Value → Ora → World → (List Value → World → Prop) → Prop
  | [], acc, _, w, K => K acc w
  | .tmp t :: l, acc, r, w, K => vcRes P tmps l (acc ++ [tmps.getD t undef]) r w K
  | .cell a t :: l, acc, r, w, K => vcLoad P t (tmps.getD a undef) r w (fun v r w => vcRes P tmps l (acc ++ [v]) r w K)
theorem vcRes_run {P : Program} {tmps : Array Value} (f : ResultVar → Sem Value) (hf : ∀ u, f (.tmp u) = pure (tmps.getD u undef)) (hc : ∀ a t, f (.cell a t) = (do loadVar t (← asAddr (tmps.getD a undef)))) :
    ∀ (l : List ResultVar) (acc : List Value) (r : Ora) (w : World) (K : List Value → World → Prop), vcRes P tmps l acc r w K → ∃ vs, (l.mapM f).run P w = .ok vs w ∧ K (acc ++ vs) w := by
  intro l
  induction l with
  | nil => exact fun acc r w K h => ⟨[], by simp, by simpa [vcRes] using h⟩
  | cons x l ih =>
    intro acc r w K h
    cases x with
    | tmp t =>
      obtain ⟨vs, h1, h2⟩ := ih _ _ _ _ h
      exact ⟨tmps.getD t undef :: vs, by simp [List.mapM_cons, hf, h1], by simpa using h2⟩
    | cell a t =>
      obtain ⟨v, r', h1, h2⟩ := vcLoad_run h
      obtain ⟨vs, h3, h4⟩ := ih _ _ _ _ h2
      refine ⟨v :: vs, ?_, by simpa using h4⟩
      rw [List.mapM_cons, hc]
      obtain ⟨ad, had⟩ := vcLoad_ptr h
      rw [had] at h1 ⊢
      have e : Instr.loadAt t (.pointer (some ad)) = loadVar t ad := rfl
      rw [e] at h1
      simp [asAddr, h1, h3]
theorem results_run {P : Program} {fn : Func} {tmps : Array Value} {r : Ora} {w : World} {K : List Value → World → Prop} (h : vcRes P tmps fn.results.toList [] r w K) :
    ∃ vs, (results fn tmps).run P w = .ok (oneOrTuple vs) w ∧ K vs w := by
  unfold results
  rw [show fn.results = fn.results.toList.toArray by simp, List.mapM_toArray]
  simp only [Sem.run_bind, Sem.run_map]
  generalize hf : (fun x : ResultVar => (_ : Sem Value)) = f
  obtain ⟨vs, h1, h2⟩ := vcRes_run (tmps := tmps) f (fun u => by rw [← hf]) (fun a t => by rw [← hf]) _ _ _ _ _ h
  refine ⟨vs, ?_, by simpa using h2⟩
  rw [h1]
  match vs with
  | [] => simp [oneOrTuple]
  | [v] => simp [oneOrTuple]
  | u :: v :: l => simp [oneOrTuple]

/-- A function's end. -/
def vcFn (P : Program) (fn : Func) (R : Ending → World → Prop) : Exit → Ora → Act → World → Prop
  | .ret, r, a, w => match a.defers with | [] => vcRes P a.tmps fn.results.toList [] r w (fun vs w => R (.returned (oneOrTuple vs)) w) | _ => False
  | .normal, r, a, w => match a.defers with | [] => vcRes P a.tmps fn.results.toList [] r w (fun vs w => R (.returned (oneOrTuple vs)) w) | _ => False
  | _, _, _, _ => False
theorem vcFn_sound {P : Program} {fn : Func} {R : Ending → World → Prop} (e : Exit) (r : Ora) (a : Act) (w : World) (h : vcFn P fn R e r a w) : bodyPost P fn R e a w := by
  unfold vcFn at h
  split at h
  · split at h
    · rename_i hd
      obtain ⟨vs, h1, h2⟩ := results_run h
      exact ⟨hd, _, h1, h2⟩
    · exact h.elim
  · split at h
    · rename_i hd
      obtain ⟨vs, h1, h2⟩ := results_run h
      exact ⟨hd, _, h1, h2⟩
    · exact h.elim
  · exact h.elim

/-! ### Places in a code -/
def sub : Code → List Nat → Code
  | c, [] => c
  | .seq x y, n :: p => match n with | 0 => sub x p | _ => sub y p
  | .cond _ x y, n :: p => match n with | 0 => sub x p | _ => sub y p
  | .block _ x, _ :: p => sub x p
  | c, _ => c
def loopOf : Code → Code | .loop x => x | c => c
def opsOf : Code → Array Oper | .region _ ops _ => ops | _ => #[]
def bodyOf (fn : Func) : Code := match fn.body with | some c => c | none => .skip
/-- What follows a place. -/
def ctx (P : Program) : Code → List Nat → (Exit → Act → World → Prop) → (Exit → Act → World → Prop)
  | _, [], B => B
  | .seq x y, n :: p, B => match n with | 0 => ctx P x p (Exit.then (y.wp P B) B) | _ => ctx P y p B
  | .cond _ x y, n :: p, B => match n with | 0 => ctx P x p B | _ => ctx P y p B
  | .block id x, _ :: p, B => ctx P x p (Exit.inBlock id B)
  | _, _, B => B
def ctxo (P : Program) : Code → List Nat → (Exit → Act → World → Prop) → (Exit → Ora → Act → World → Prop) → (Exit → Ora → Act → World → Prop)
  | _, [], _, Bo => Bo
  | .seq x y, n :: p, B, Bo => match n with
    | 0 => ctxo P x p (Exit.then (y.wp P B) B) (fun e r a w => match e with | .normal => vc P y B Bo r a w | e => Bo e r a w)
    | _ => ctxo P y p B Bo
  | .cond _ x y, n :: p, B, Bo => match n with | 0 => ctxo P x p B Bo | _ => ctxo P y p B Bo
  | .block id x, _ :: p, B, Bo => ctxo P x p (Exit.inBlock id B) (fun e r a w => match e with | .exit id' => bif id' == id then Bo .normal r a w else Bo (.exit id') r a w | e => Bo e r a w)
  | _, _, _, Bo => Bo
theorem then_sound {P : Program} {y : Code} {B : Exit → Act → World → Prop} {Bo : Exit → Ora → Act → World → Prop} (h : ∀ e r a w, Bo e r a w → B e a w) (e : Exit) (r : Ora) (a : Act) (w : World)
    (k : (match e with | .normal => vc P y B Bo r a w | e => Bo e r a w)) : Exit.then (y.wp P B) B e a w := by
  cases e with
  | normal => exact vc_sound _ h _ _ _ k
  | _ => exact h _ _ _ _ k
theorem inBlock_sound {id : Nat} {B : Exit → Act → World → Prop} {Bo : Exit → Ora → Act → World → Prop} (h : ∀ e r a w, Bo e r a w → B e a w) (e : Exit) (r : Ora) (a : Act) (w : World)
    (k : (match e with | .exit id' => bif id' == id then Bo .normal r a w else Bo (.exit id') r a w | e => Bo e r a w)) : Exit.inBlock id B e a w := by
  cases e with
  | exit id' =>
    simp only [Exit.inBlock]
    by_cases hi : id' = id
    · rw [if_pos hi]; subst hi; simp at k; exact h _ _ _ _ k
    · rw [if_neg hi]
      have e : (id' == id) = false := by simpa using hi
      simp only [e, cond_false] at k
      exact h _ _ _ _ k
  | _ => exact h _ _ _ _ k
theorem ctx_sound {P : Program} : ∀ (c : Code) (p : List Nat) {B : Exit → Act → World → Prop} {Bo : Exit → Ora → Act → World → Prop} (_ : ∀ e r a w, Bo e r a w → B e a w) (e : Exit) (r : Ora) (a : Act) (w : World), ctxo P c p B Bo e r a w → ctx P c p B e a w := by
  intro c
  induction c with
  | seq x y ihx ihy =>
    intro p B Bo h e r a w k
    cases p with
    | nil => exact h _ _ _ _ k
    | cons n p =>
      cases n with
      | zero => exact ihx p (then_sound h) _ _ _ _ k
      | succ n => exact ihy p h _ _ _ _ k
  | cond c x y ihx ihy =>
    intro p B Bo h e r a w k
    cases p with
    | nil => exact h _ _ _ _ k
    | cons n p =>
      cases n with
      | zero => exact ihx p h _ _ _ _ k
      | succ n => exact ihy p h _ _ _ _ k
  | block id x ih =>
    intro p B Bo h e r a w k
    cases p with
    | nil => exact h _ _ _ _ k
    | cons n p => exact ih p (inBlock_sound h) _ _ _ _ k
  | _ => exact fun p B Bo h e r a w k => by cases p <;> exact h _ _ _ _ k

/-- The code at a place, and what follows it. -/
def atC (P : Program) (root : Code) (p : List Nat) (B : Exit → Act → World → Prop) (a : Act) (w : World) : Prop := (sub root p).wp P (ctx P root p B) a w
/-- The operations from number k on of the region at a place, and what follows them. -/
def atO (P : Program) (root : Code) (p : List Nat) (k : Nat) (B : Exit → Act → World → Prop) (a : Act) (w : World) : Prop := wpList P (opsOf (sub root p)) (ctx P root p B) ((opsOf (sub root p)).toList.drop k) a w
def vcC (P : Program) (root : Code) (p : List Nat) (B : Exit → Act → World → Prop) (Bo : Exit → Ora → Act → World → Prop) (r : Ora) (a : Act) (w : World) : Prop := vc P (sub root p) (ctx P root p B) (ctxo P root p B Bo) r a w
def vcO (P : Program) (root : Code) (p : List Nat) (k : Nat) (B : Exit → Act → World → Prop) (Bo : Exit → Ora → Act → World → Prop) (r : Ora) (a : Act) (w : World) : Prop :=
  vcOps P (opsOf (sub root p)) (ctx P root p B) (ctxo P root p B Bo) ((opsOf (sub root p)).toList.drop k) r a w
theorem atC_of {P : Program} {root : Code} {p : List Nat} {B : Exit → Act → World → Prop} {Bo : Exit → Ora → Act → World → Prop} {r : Ora} {a : Act} {w : World} {E : Prop} (h : ∀ e r a w, Bo e r a w → B e a w)
    (he : vcC P root p B Bo r a w = E) (hE : E) : atC P root p B a w := vc_sound _ (ctx_sound root p h) r a w (he.mpr hE)
theorem atO_of {P : Program} {root : Code} {p : List Nat} {k : Nat} {B : Exit → Act → World → Prop} {Bo : Exit → Ora → Act → World → Prop} {r : Ora} {a : Act} {w : World} {E : Prop} (h : ∀ e r a w, Bo e r a w → B e a w)
    (he : vcO P root p k B Bo r a w = E) (hE : E) : atO P root p k B a w := vcOps_sound (fun r a w => ctx_sound root p h _ r a w) _ r a w (he.mpr hE)
/-- A call's beginning. -/
theorem calls_of {P : Program} {f : FuncId} {fn : Func} {args : Array Value} {w : World} {R : Ending → World → Prop} {r : Ora} {E : Prop} (hf : P.funcs[f]? = some fn) (hb : fn.body.isSome = true)
    (he : vcC P (bodyOf fn) [] (bodyPost P fn R) (vcFn P fn R) r { tmps := args ++ Array.replicate (fn.ntmps - args.size) undef, defers := [] } w = E) (hE : E) : Calls P f args w R := by
  cases hc : fn.body with
  | none => rw [hc] at hb; cases hb
  | some c =>
    refine calls_of_wp hf hc ?_
    have := atC_of (vcFn_sound) he hE
    unfold atC at this
    simp only [sub, ctx, bodyOf, hc] at this
    exact this

/-! ### Blocks known whole: what the events ask -/
def bAnd (k : IntKind) (x y : Int) : Int := k.wrap (BitVec.ofInt k.bits x &&& BitVec.ofInt k.bits y).toNat
def bOr (k : IntKind) (x y : Int) : Int := k.wrap (BitVec.ofInt k.bits x ||| BitVec.ofInt k.bits y).toNat
def bXor (k : IntKind) (x y : Int) : Int := k.wrap (BitVec.ofInt k.bits x ^^^ BitVec.ofInt k.bits y).toNat
def bAndNot (k : IntKind) (x y : Int) : Int := k.wrap (BitVec.ofInt k.bits x &&& ~~~ (BitVec.ofInt k.bits y)).toNat
theorem add_plain (b o n : Nat) : (⟨b, o, none⟩ : Addr).add n = ⟨b, o + n, none⟩ := by unfold Addr.add; split <;> simp_all
theorem Bk.has {w : World} {b : Nat} {cs : Array Value} {t : TypeId} (h : Bk w b cs t) (i : Nat) {v : Value} (hv : cs[i]? = some v) : Has w ⟨b, i, none⟩ := ⟨⟨_, h.cell i hv⟩, h.frozen i⟩
theorem Bk.row {w : World} {b : Nat} {cs xs : Array Value} {t : TypeId} (h : Bk w b cs t) (o : Nat) (hx : cs.extract o (o + xs.size) = xs) : RowAt w ⟨b, o, none⟩ xs := by
  intro i v hv
  rw [add_plain]
  refine h.cell (o + i) ?_
  rw [← hx, Array.getElem?_extract] at hv
  split at hv
  · exact hv
  · cases hv
theorem setRow_block {ad : Addr} : ∀ (vs : List Value) (i : Nat) (w : World) (k : Nat), k ≠ ad.block → (setRow w ad i vs).heap[k]? = w.heap[k]? := by
  intro vs
  induction vs with
  | nil => intro i w k _; rfl
  | cons v r ih =>
    intro i w k hk
    show (setRow (w.setCell (ad.add i) v) ad (i + 1) r).heap[k]? = _
    rw [ih _ _ _ hk, Below.heap_setCell]
    unfold Addr.add; split <;> simpa using hk
theorem setRow_rest {ad : Addr} : ∀ (vs : List Value) (i : Nat) (w : World), (setRow w ad i vs).os = w.os ∧ (setRow w ad i vs).tape = w.tape ∧ (setRow w ad i vs).output = w.output ∧ (setRow w ad i vs).heap.size = w.heap.size := by
  intro vs
  induction vs with
  | nil => intro i w; exact ⟨rfl, rfl, rfl, rfl⟩
  | cons v r ih =>
    intro i w
    obtain ⟨h1, h2, h3, h4⟩ := ih (i + 1) (w.setCell (ad.add i) v)
    exact ⟨h1, h2, h3, h4.trans (by simp [World.setCell])⟩
theorem Fr.setRow {S : List Nat} {w0 w w1 : World} {ad : Addr} {vs : List Value} (r : Fr S w0 w) (hb : ad.block ∈ S ∨ w0.heap.size ≤ ad.block) (h : w1 = setRow w ad 0 vs) : Fr S w0 w1 := by
  subst h
  obtain ⟨h1, h2, h3, h4⟩ := setRow_rest (ad := ad) vs 0 w
  refine ⟨h1.trans r.os, h2.trans r.tape, h3.trans r.output, by rw [h4]; exact r.size, fun k hk hn => ?_⟩
  have hne : k ≠ ad.block := by
    rintro rfl
    exact hb.elim hn (fun hle => absurd hk (Nat.not_lt.2 hle))
  rw [setRow_block _ _ _ _ hne]
  exact r.block k hk hn
def setArr (cs : Array Value) (o : Nat) : List Value → Array Value
  | [] => cs
  | v :: r => setArr (cs.setIfInBounds o v) (o + 1) r
theorem Bk.setRow_ {b o : Nat} {t : TypeId} : ∀ (vs : List Value) (i : Nat) (w : World) (cs : Array Value), Bk w b cs t → Bk (setRow w ⟨b, o, none⟩ i vs) b (setArr cs (o + i) vs) t := by
  intro vs
  induction vs with
  | nil => exact fun _ _ _ h => h
  | cons v r ih =>
    intro i w cs h
    have := ih (i + 1) _ _ (h.set (o + i) v)
    rw [show (⟨b, o + i, none⟩ : Addr) = (⟨b, o, none⟩ : Addr).add i from (add_plain _ _ _).symm] at this
    exact this
theorem Bk.setRowAt {w w1 : World} {b : Nat} {cs cs' : Array Value} {t : TypeId} {vs : List Value} (h : Bk w b cs t) (o : Nat) (hw : w1 = setRow w ⟨b, o, none⟩ 0 vs) (e : setArr cs o vs = cs') : Bk w1 b cs' t := by
  subst hw; subst e; exact Bk.setRow_ vs 0 w cs h
theorem Bk.otherRowAt {w w1 : World} {b : Nat} {cs : Array Value} {t : TypeId} {a : Addr} {vs : List Value} (h : Bk w b cs t) (hw : w1 = setRow w a 0 vs) (hne : b ≠ a.block) : Bk w1 b cs t := by
  subst hw; unfold Bk at h ⊢; rw [setRow_block _ _ _ _ hne]; exact h
theorem Bk.hasRow_ {b o : Nat} {t : TypeId} : ∀ (vs : List Value) (i : Nat) (w : World) (cs : Array Value), Bk w b cs t → o + i + vs.length ≤ cs.size → (∀ v ∈ vs, Plain v) → HasRow w ⟨b, o, none⟩ i vs := by
  intro vs
  induction vs with
  | nil => exact fun _ _ _ _ _ _ => trivial
  | cons v r ih =>
    intro i w cs h hl hp
    have hi : o + i < cs.size := by simp at hl; omega
    refine ⟨hp v (by simp), ?_, ?_⟩
    · rw [add_plain]; exact h.has (o + i) (Array.getElem?_eq_getElem hi)
    · have h2 := h.set (o + i) v
      rw [← add_plain] at h2
      exact ih (i + 1) _ _ h2 (by simp at hl ⊢; omega) (fun u hu => hp u (by simp [hu]))
theorem Bk.hasRow {w : World} {b : Nat} {cs : Array Value} {t : TypeId} (h : Bk w b cs t) (o : Nat) (vs : List Value) (hl : Nat.ble (o + vs.length) cs.size = true) (hp : vs.all Value.oneCell' = true) : HasRow w ⟨b, o, none⟩ 0 vs :=
  Bk.hasRow_ vs 0 w cs h (Nat.le_of_ble_eq_true hl) (fun v hv => List.all_eq_true.1 hp v hv)

theorem sub_nil (c : Code) : sub c [] = c := by cases c <;> rfl
theorem ctx_nil (P : Program) (c : Code) (B : Exit → Act → World → Prop) : ctx P c [] B = B := by cases c <;> rfl
theorem atC_nil {P : Program} {c : Code} {B : Exit → Act → World → Prop} {a : Act} {w : World} (h : atC P c [] B a w) : c.wp P B a w := by
  unfold atC at h; rwa [sub_nil, ctx_nil] at h
/-- A loop of at most n + 1 rounds. -/
theorem atC_rounds {P : Program} {root : Code} {p : List Nat} {B : Exit → Act → World → Prop} {a : Act} {w : World} (n : Nat) (hl : sub root p = .loop (loopOf (sub root p)))
    (h : atC P (loopOf (sub root p)) [] (Exit.then (Code.rounds P (loopOf (sub root p)) (ctx P root p B) n) (ctx P root p B)) a w) : atC P root p B a w := by
  unfold atC
  rw [hl]
  exact wp_loop_rounds (n + 1) (atC_nil h)
theorem rounds_next {P : Program} {x : Code} {Q : Exit → Act → World → Prop} {n : Nat} {a : Act} {w : World} (h : atC P x [] (Exit.then (Code.rounds P x Q n) Q) a w) : Exit.then (Code.rounds P x Q (n + 1)) Q .normal a w := atC_nil h
/-- A loop with a relation that bears a number, which every round lowers. -/
theorem atC_loop {P : Program} {root : Code} {p : List Nat} {B : Exit → Act → World → Prop} {a : Act} {w : World} (hl : sub root p = .loop (loopOf (sub root p))) (I : Nat → Act → World → Prop) (n : Nat) (h0 : I n a w)
    (round : ∀ n a w, I n a w → atC P (loopOf (sub root p)) [] (Exit.then (fun a' w' => ∃ n', n' < n ∧ I n' a' w') (ctx P root p B)) a w) : atC P root p B a w := by
  unfold atC
  rw [hl]
  exact wp_loop_ghost I n h0 (fun n a w h => atC_nil (round n a w h))

/-- Within a region that draws: operations 'listed' are through, fuel are to come, number i was the last. -/
def atD (P : Program) (root : Code) (p : List Nat) (fuel : Nat) (listed : Array Bool) (Fs : Facts) (i : Nat) (B : Exit → Act → World → Prop) (a : Act) (w : World) : Prop :=
  AbsL Fs i w ∧ wpAnyG P (opsOf (sub root p)) (NoPanic (ctx P root p B)) Fs fuel listed a w
def unlist (listed : Array Bool) (i : Nat) : Array Bool := listed.setIfInBounds i false
def vcD (P : Program) (root : Code) (p : List Nat) (fuel : Nat) (listed : Array Bool) (Fs : Facts) (i : Nat) (tk : List Nat) (B : Exit → Act → World → Prop) (Bo : Exit → Ora → Act → World → Prop) (r : Ora) (a : Act) (w : World) : Prop :=
  bif Region.noSelect (opsOf (sub root p)) && okFacts (opsOf (sub root p)) Fs && closedB (opsOf (sub root p)) (unlist listed i) && (Region.ready .any (opsOf (sub root p)) (unlist listed i)).contains i && ((unlist listed i).setIfInBounds i true == listed)
    then vcAny P (opsOf (sub root p)) (ctx P root p B) Fs (ctxo P root p B Bo) tk fuel listed r a w else False
theorem atD_of {P : Program} {root : Code} {p : List Nat} {fuel : Nat} {listed : Array Bool} {Fs : Facts} {i : Nat} {tk : List Nat} {B : Exit → Act → World → Prop} {Bo : Exit → Ora → Act → World → Prop} {r : Ora} {a : Act} {w : World} {E : Prop} (h : ∀ e r a w, Bo e r a w → B e a w)
    (hS : AbsL Fs i w) (he : vcD P root p fuel listed Fs i tk B Bo r a w = E) (hE : E) : atD P root p fuel listed Fs i B a w := by
  have hE := he.mpr hE
  unfold vcD at hE
  cases hb : (Region.noSelect (opsOf (sub root p)) && okFacts (opsOf (sub root p)) Fs && closedB (opsOf (sub root p)) (unlist listed i) && (Region.ready .any (opsOf (sub root p)) (unlist listed i)).contains i && ((unlist listed i).setIfInBounds i true == listed))
  · rw [hb] at hE; exact hE.elim
  · rw [hb] at hE
    simp only [Bool.and_eq_true] at hb
    obtain ⟨⟨⟨⟨h1, h2⟩, h3⟩, h4⟩, h5⟩ := hb
    have hr : i ∈ Region.ready .any (opsOf (sub root p)) (unlist listed i) := by simpa using h4
    have hl : (unlist listed i).setIfInBounds i true = listed := by simpa using h5
    have hc := closed_of h3
    exact ⟨hS, vcAny_sound h1 h2 (fun r a w => ctx_sound root p h _ r a w) _ _ _ _ _ (hl ▸ hc.set hr) (hl ▸ InvF.step hc h2 hr hS) hE⟩
end Go.Proofs.YtfmifminaldmhaaDoor
