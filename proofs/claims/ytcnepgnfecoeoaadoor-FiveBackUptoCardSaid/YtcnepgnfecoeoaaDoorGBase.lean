/- Step lemmas for symbolic execution of a Go function's operations: frames as association lists, worlds by frame relations. No condition. -/
import Derived.Orders
import Derived.Below
import Derived.Maps.AppendAt
import Derived.KernelRfl
import Derived.Tactics
set_option linter.unusedVariables false
set_option linter.unusedSimpArgs false
namespace Go.Proofs.GP
open Go Go.RowKit

/-! ### 1. Frames -/
abbrev Env := List (Nat × Value)
def look : Env → Nat → Option Value
  | [], _ => none
  | (k, v) :: r, t => match Nat.beq k t with
    | true => some v
    | false => look r t
structure St (n : Nat) (env : Env) (a : Act) : Prop where
  size : a.tmps.size = n
  defers : a.defers = []
  at_ : ∀ t v, look env t = some v → a.tmps.getD t undef = v
def ev (env : Env) : Operand → Option Value
  | .tmp t => look env t
  | .const v => some v
  | .global g => some (.pointer (some ⟨g, 0, none⟩))
  | .func f => some (.func (.func f) #[] #[])
def ext (env : Env) : Option Tmp → Value → Env
  | some d, v => (d, v) :: env
  | none, _ => env
def dok (n : Nat) : Option Tmp → Bool
  | some d => Nat.blt d n
  | none => true
section
variable {n : Nat} {env : Env} {a : Act}
theorem St.eval (h : St n env a) {x : Operand} {v : Value} (hx : ev env x = some v) : a.eval x = v := by
  cases x with
  | tmp t => exact h.at_ t v hx
  | const u => simpa [ev, Act.eval] using hx
  | global g => simpa [ev, Act.eval] using hx
  | func f => simpa [ev, Act.eval] using hx
theorem St.put (h : St n env a) {d : Option Tmp} (hd : dok n d = true) (v : Value) : St n (ext env d v) (a.put d v) := by
  cases d with
  | none => exact h
  | some d =>
    have hlt : d < a.tmps.size := by rw [h.size]; simpa [dok] using hd
    refine ⟨by simp [Act.put, h.size], h.defers, fun t u hu => ?_⟩
    simp only [ext, look] at hu
    by_cases e : d = t
    · subst e
      rw [Nat.beq_refl] at hu
      simp only [Option.some.injEq] at hu
      subst hu
      simp [Act.put, hlt]
    · have hb : Nat.beq d t = false := by
        cases hq : Nat.beq d t with
        | false => rfl
        | true => exact absurd (Nat.eq_of_beq_eq_true hq) e
      rw [hb] at hu
      have := h.at_ t u hu
      simpa [Act.put, Array.getElem?_setIfInBounds_ne e] using this
theorem St.sub (h : St n env a) {env' : Env} (hs : ∀ t v, look env' t = some v → look env t = some v) : St n env' a := ⟨h.size, h.defers, fun t v hv => h.at_ t v (hs t v hv)⟩
end
/-- A frame that begins: the arguments, then nothing. -/
def enum : Nat → List Value → Env
  | _, [] => []
  | i, v :: r => (i, v) :: enum (i + 1) r
theorem look_enum (l : List Value) : ∀ (i t : Nat) (v : Value), look (enum i l) t = some v → ∃ j, t = i + j ∧ l[j]? = some v := by
  induction l with
  | nil => intro i t v h; cases h
  | cons x l ih =>
    intro i t v h
    simp only [enum, look] at h
    split at h
    · rename_i hq
      have := Nat.eq_of_beq_eq_true hq
      subst this
      exact ⟨0, rfl, by simpa using h⟩
    · obtain ⟨j, e, hj⟩ := ih (i + 1) t v h
      exact ⟨j + 1, by omega, by simpa using hj⟩
theorem St.start (args : List Value) (n : Nat) (hn : args.length ≤ n) : St n (enum 0 args) { tmps := args.toArray ++ Array.replicate (n - args.toArray.size) undef, defers := [] } := by
  refine ⟨by simp; omega, rfl, fun t v h => ?_⟩
  obtain ⟨j, e, hj⟩ := look_enum args 0 t v h
  simp only [Nat.zero_add] at e
  subst e
  have hlt : t < args.length := (List.getElem?_eq_some_iff.1 hj).1
  have hv : args[t] = v := by rw [List.getElem?_eq_getElem hlt] at hj; exact Option.some.inj hj
  simp [Array.getElem?_append, hlt, hv]

/-! ### 2. Worlds: what may have turned; a block known whole -/
structure Fr (gs : List Nat) (w w' : World) : Prop where
  os : w'.os = w.os
  tape : w'.tape = w.tape
  output : w'.output = w.output
  size : w.heap.size ≤ w'.heap.size
  block : ∀ k, k < w.heap.size → k ∉ gs → w'.heap[k]? = w.heap[k]?
section
variable {gs hs : List Nat} {w w' w'' : World}
theorem Fr.refl (gs : List Nat) (w : World) : Fr gs w w := ⟨rfl, rfl, rfl, Nat.le_refl _, fun _ _ _ => rfl⟩
theorem Fr.trans (h : Fr gs w w') (k : Fr hs w' w'') (hg : ∀ i, i < w.heap.size → i ∈ hs → i ∈ gs) : Fr gs w w'' :=
  ⟨k.os.trans h.os, k.tape.trans h.tape, k.output.trans h.output, Nat.le_trans h.size k.size, fun i hi hn =>
    (k.block i (Nat.lt_of_lt_of_le hi h.size) fun hc => hn (hg i hi hc)).trans (h.block i hi hn)⟩
/-- A step that turns nothing old. -/
theorem Fr.then0 (h : Fr gs w w') (k : Fr [] w' w'') : Fr gs w w'' := h.trans k fun _ _ hc => by cases hc
/-- A step that turns one block, that is new or may turn. -/
theorem Fr.thenNew {g : Nat} (h : Fr gs w w') (k : Fr [g] w' w'') (hg : w.heap.size ≤ g) : Fr gs w w'' := h.trans k fun i hi hc => by
  simp only [List.mem_singleton] at hc
  omega
theorem Fr.thenIn {g : Nat} (h : Fr gs w w') (k : Fr [g] w' w'') (hg : g ∈ gs) : Fr gs w w'' := h.trans k fun i hi hc => by
  simp only [List.mem_singleton] at hc
  subst hc; exact hg
theorem Fr.mono (h : Fr gs w w') (hg : ∀ i, i ∈ gs → i ∈ hs) : Fr hs w w' := ⟨h.os, h.tape, h.output, h.size, fun k hk hn => h.block k hk fun hc => hn (hg k hc)⟩
theorem Fr.below (h : Fr [] w w') : Below w.heap.size w w' := ⟨h.os, h.tape, h.output, h.size, fun k hk => h.block k hk (by simp)⟩
theorem Fr.of_below (h : Below w.heap.size w w') : Fr [] w w' := ⟨h.os, h.tape, h.output, h.size, fun k hk _ => h.block k hk⟩
theorem Fr.drew (gs : List Nat) (w : World) : Fr gs w { w with drawn := w.drawn + 1 } := ⟨rfl, rfl, rfl, Nat.le_refl _, fun _ _ _ => rfl⟩
end

def Blk (w : World) (g : Nat) (t : TypeId) (l : List Value) : Prop := w.heap[g]? = some (.cells l.toArray t (0, 0))
section
variable {gs : List Nat} {w w' : World} {g : Nat} {t : TypeId} {l : List Value}
theorem Blk.lt (h : Blk w g t l) : g < w.heap.size := by
  rcases Nat.lt_or_ge g w.heap.size with h1 | h1
  · exact h1
  · unfold Blk at h; rw [Array.getElem?_eq_none h1] at h; cases h
theorem Blk.fr (h : Blk w g t l) (k : Fr gs w w') (hg : g ∉ gs) : Blk w' g t l := (k.block g h.lt hg).trans h
theorem Blk.fr0 (h : Blk w g t l) (k : Fr [] w w') : Blk w' g t l := h.fr k (by simp)
theorem Blk.fr1 (h : Blk w g t l) {m : Nat} (k : Fr [m] w w') (hg : g ≠ m) : Blk w' g t l := h.fr k (by simpa using hg)
theorem Blk.cell (h : Blk w g t l) (i : Nat) : w.cell? ⟨g, i, none⟩ = l[i]? := by
  unfold Blk at h
  simp [World.cell?, h]
theorem Blk.thawed (h : Blk w g t l) (i : Nat) : w.frozen? ⟨g, i, none⟩ = false := by
  unfold Blk at h
  simp [World.frozen?, h]
theorem Blk.ne_type {g' : Nat} {t' : TypeId} {l' : List Value} (h : Blk w g t l) (h' : Blk w g' t' l') (hne : t ≠ t') : g ≠ g' := by
  rintro rfl
  unfold Blk at h h'
  rw [h] at h'
  injection h' with h'
  injection h' with _ ht
  exact hne ht
theorem Blk.new (w : World) (t : TypeId) (l : List Value) : Blk { w with heap := w.heap.push (.cells l.toArray t) } w.heap.size t l := by simp [Blk]
theorem Fr.push (w : World) (o : Obj) : Fr [] w { w with heap := w.heap.push o } :=
  ⟨rfl, rfl, rfl, by simp, fun k hk _ => by rw [show ({ w with heap := w.heap.push o } : World).heap = w.heap.push o from rfl, Array.getElem?_push, if_neg (by omega)]⟩
theorem Fr.setCell (w : World) (g i : Nat) (v : Value) : Fr [g] w (w.setCell ⟨g, i, none⟩ v) :=
  ⟨rfl, rfl, rfl, by simp [World.setCell], fun k hk hn => by
    simp only [List.mem_singleton] at hn
    simp only [World.setCell, Array.getElem?_modify]
    rw [if_neg (fun e => hn e.symm)]⟩
theorem Blk.setCell (h : Blk w g t l) (i : Nat) (v : Value) : Blk (w.setCell ⟨g, i, none⟩ v) g t (l.set i v) := by
  unfold Blk at h ⊢
  simp [World.setCell, Array.getElem?_modify, h]
end

/-! ### 3. What the model's words come to -/
section
variable {P : Program}
def oneV (v : Value) : Bool := match v with | .agg _ | .tuple _ => false | _ => true
theorem run_store {α : Type} (P : Program) {w : World} {g : Nat} {t : TypeId} {l : List Value} (h : Blk w g t l) (i : Nat) (hi : i < l.length) (v : Value) (hv : oneV v = true) (k : Sem α) :
    (Sem.store .plain ⟨g, i, none⟩ v k).run P w = k.run P (w.setCell ⟨g, i, none⟩ v) := by
  have hc : w.cell? ⟨g, i, none⟩ = some l[i] := by rw [h.cell]; exact List.getElem?_eq_getElem hi
  have hf := h.thawed i
  cases v <;> first | (simp only [Sem.run, hc, hf]; done) | (simp only [Sem.run, hc, hf]; rfl) | (simp [oneV] at hv; done)
def setL (l : List Value) : Nat → List Value → List Value
  | _, [] => l
  | i, v :: r => setL (l.set i v) (i + 1) r
theorem setL_length : ∀ (vs l : List Value) (i : Nat), (setL l i vs).length = l.length
  | [], _, _ => rfl
  | v :: r, l, i => by simp [setL, setL_length r]
theorem addr_add (g o i : Nat) : (⟨g, o, none⟩ : Addr).add i = ⟨g, o + i, none⟩ := by unfold Addr.add; split <;> simp_all
theorem run_storeCells (P : Program) {g o : Nat} {t : TypeId} : ∀ (vs : List Value) (i : Nat) (w : World) (l : List Value), Blk w g t l → o + i + vs.length ≤ l.length → (∀ v ∈ vs, oneV v = true) →
    ∃ w', (storeCells ⟨g, o, none⟩ vs i).run P w = .ok () w' ∧ Blk w' g t (setL l (o + i) vs) ∧ Fr [g] w w'
  | [], i, w, l, h, _, _ => ⟨w, rfl, h, Fr.refl _ _⟩
  | v :: r, i, w, l, h, hi, hv => by
    simp only [List.length_cons] at hi
    obtain ⟨w', h1, h2, h3⟩ := run_storeCells P (o := o) r (i + 1) (w.setCell ⟨g, o + i, none⟩ v) (l.set (o + i) v) (h.setCell _ _) (by rw [List.length_set]; omega) (fun u hu => hv u (by simp [hu]))
    refine ⟨w', ?_, by simpa [setL, Nat.add_assoc] using h2, (Fr.setCell w g (o + i) v).trans h3 (fun _ _ hc => hc)⟩
    have := run_store P h (o + i) (by omega) v (hv v (by simp)) (storeCells ⟨g, o, none⟩ r (i + 1))
    simp only [storeCells, store, addr_add]
    show (Sem.store .plain ⟨g, o + i, none⟩ v (storeCells ⟨g, o, none⟩ r (i + 1))).run P w = _
    rw [this, h1]
theorem run_loadCellsFrom (P : Program) {w : World} {g o : Nat} {xs : List Value} : ∀ (n i : Nat) (acc : Array Value), (∀ j, i ≤ j → j < i + n → w.cell? ⟨g, o + j, none⟩ = xs[j]?) → i + n ≤ xs.length →
    (loadCellsFrom ⟨g, o, none⟩ i n acc).run P w = .ok (acc ++ (xs.drop i).take n) w
  | 0, i, acc, _, _ => by simp [loadCellsFrom]
  | n + 1, i, acc, h, hn => by
    have hc := h i (Nat.le_refl _) (by omega)
    rw [List.getElem?_eq_getElem (show i < xs.length by omega)] at hc
    have ih := run_loadCellsFrom P n (i + 1) (acc.push xs[i]) (fun j h1 h2 => h j (by omega) (by omega)) (by omega)
    simp only [loadCellsFrom, load, addr_add]
    show (Sem.load .plain ⟨g, o + i, none⟩ fun v => loadCellsFrom ⟨g, o, none⟩ (i + 1) n (acc.push v)).run P w = _
    simp only [Sem.run, hc]
    rw [ih]
    congr 1
    apply Array.ext'
    rw [show xs.drop i = xs[i] :: xs.drop (i + 1) from List.drop_eq_getElem_cons (by omega), List.take_succ_cons]
    try simp
theorem run_loadCells (P : Program) {w : World} {g o : Nat} {xs : List Value} (h : ∀ j, j < xs.length → w.cell? ⟨g, o + j, none⟩ = xs[j]?) :
    (loadCells ⟨g, o, none⟩ xs.length).run P w = .ok xs.toArray w := by
  have := run_loadCellsFrom P (w := w) (g := g) (o := o) (xs := xs) xs.length 0 #[] (fun j _ hj => h j (by omega)) (by omega)
  simpa [loadCells] using this

/-- A type's facts: is it a struct or an array, how many cells. -/
structure TyS (P : Program) (t : TypeId) (agg : Bool) (k : Nat) : Prop where
  agg_ : ∀ w, (isAgg t).run P w = .ok agg w
  size : ∀ w, (sizeOf t).run P w = .ok k w
theorem run_loadVar1 {w : World} {t : TypeId} {k : Nat} (ht : TyS P t false k) {a : Addr} {v : Value} (h : w.cell? a = some v) : (loadVar t a).run P w = .ok v w := by
  simp only [loadVar, Sem.run_bind, Result.andThen_ok, ht.agg_, load]
  simp [Sem.run, h]
theorem run_loadVarA {w : World} {t : TypeId} {k : Nat} (ht : TyS P t true k) {g o : Nat} {xs : List Value} (hk : xs.length = k) (h : ∀ j, j < k → w.cell? ⟨g, o + j, none⟩ = xs[j]?) :
    (loadVar t ⟨g, o, none⟩).run P w = .ok (.agg xs.toArray) w := by
  subst hk
  simp only [loadVar, Sem.run_bind, Result.andThen_ok, ht.agg_, ht.size, if_true]
  rw [run_loadCells P h]
  simp
theorem run_storeVar {w : World} {t : TypeId} {ag : Bool} {k : Nat} (ht : TyS P t ag k) {g o : Nat} {tb : TypeId} {l : List Value} (hb : Blk w g tb l) {v : Value} {cs : List Value} (hcs : v.cells = cs.toArray) (hk : cs.length = k)
    (h1 : ∀ u ∈ cs, oneV u = true) (hfit : o + k ≤ l.length) : ∃ w', (storeVar t ⟨g, o, none⟩ v).run P w = .ok () w' ∧ Blk w' g tb (setL l o cs) ∧ Fr [g] w w' := by
  obtain ⟨w', h2, h3, h4⟩ := run_storeCells P cs 0 w l hb (o := o) (by simpa [hk] using hfit) h1
  refine ⟨w', ?_, h3, h4⟩
  simp only [storeVar, Sem.run_bind, Result.andThen_ok, ht.size, hcs]
  simp only [List.size_toArray, hk]
  simpa using h2
end
end Go.Proofs.GP
