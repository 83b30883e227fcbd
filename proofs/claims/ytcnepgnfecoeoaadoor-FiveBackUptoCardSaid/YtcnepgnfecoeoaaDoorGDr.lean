/- Step lemmas, fifth part: regions that draw their order of evaluation: reads and plain values first, under a condition on the world. No condition. -/
import Derived.Test.YtcnepgnfecoeoaaDoorGFlow
import Derived.OrdersHeld
set_option linter.unusedVariables false
set_option linter.unusedSimpArgs false
namespace Go.Proofs.GP
open Go Go.RowKit

/-- Whatever order is drawn; behind every operation the world meets S, till number z has come up. -/
def wpD (P : Program) (ops : Array Oper) (Q : Post) (S : World → Prop) (z : Nat) : Nat → Array Bool → Act → World → Prop
  | 0, listed, a, w => Region.ready .any ops listed = [] ∧ Q .normal a w
  | fuel + 1, listed, a, w =>
    (Region.ready .any ops listed = [] → Q .normal a w) ∧
    ∀ i ∈ Region.ready .any ops listed, wpOp P ops Q i (fun a' w' => ((listed.setIfInBounds i true).getD z false = false → S w') ∧ wpD P ops Q S z fuel (listed.setIfInBounds i true) a' w') a w
section
variable {P : Program} {ops : Array Oper} {Q : Post} {S : World → Prop} {z : Nat}
theorem wpAny_of_D : ∀ (fuel : Nat) (listed : Array Bool) (a : Act) (w : World), wpD P ops Q S z fuel listed a w → wpAny P .any ops Q fuel listed a w
  | 0, _, _, _, h => h
  | fuel + 1, _, _, _, h => ⟨h.1, fun i hi => wpOp_mono (fun a' w' h' => wpAny_of_D fuel _ a' w' h'.2) (h.2 i hi)⟩
/-- z stands behind i, or is no operation. -/
def zok (ops : Array Oper) (z i : Nat) : Bool := match ops[z]? with
  | none => true
  | some oz => oz.after.any fun e => Region.binds .any e && Nat.beq e.on i
theorem wpD_first {i : Nat} {oi : Oper} {v : Value} (S' : World → Prop) (hSS : ∀ w, S w → S' w) (hi : ops[i]? = some oi) (hiz : i ≠ z)
    (hsel : ∀ (j : Nat) (o : Oper) cs b, ops[j]? = some o → o.op ≠ .select cs b) (hQ : ∀ c a w, Q (.panic c) (a.put oi.dst v) w → Q (.panic c) a w) :
    ∀ (fuel : Nat) (listed : Array Bool) (a : Act) (w : World),
      (∀ j oj, ops[j]? = some oj → j ≠ i → listed.getD j true = false → (∀ e ∈ oj.after, Region.binds .any e = true → e.on ≠ i) → oi.apart ops oj = true) →
      i ∈ Region.ready .any ops listed → ((∀ w, S' w) ∨ (zok ops z i = true ∧ listed.getD z false = false)) → YieldsIf P ops S' oi v a → S' w → (listed.getD z false = false → S w) →
      wpD P ops Q S z fuel (listed.setIfInBounds i true) (a.put oi.dst v) w → wpD P ops Q S z (fuel + 1) listed a w := by
  intro fuel
  induction fuel with
  | zero =>
    intro listed a w _ hr _ hy hS hS0 H
    refine ⟨fun h => (by rw [h] at hr; cases hr), fun j hj => ?_⟩
    by_cases hji : j = i
    · subst hji; exact hy.wpOp hi hS ⟨fun h => hS0 (by rwa [getD_set_ne false hiz] at h), H⟩
    · have := ready_mono hj hji
      rw [H.1] at this
      cases this
  | succ fuel ih =>
    intro listed a w hfree hr hz hy hS hS0 H
    refine ⟨fun h => (by rw [h] at hr; cases hr), fun j hj => ?_⟩
    by_cases hji : j = i
    · subst hji; exact hy.wpOp hi hS ⟨fun h => hS0 (by rwa [getD_set_ne false hiz] at h), H⟩
    · have h1 := H.2 j (ready_mono hj hji)
      obtain ⟨hjun, oj, hoj, hall⟩ := mem_ready.1 hj
      have hnot : ∀ e ∈ oj.after, Region.binds .any e = true → e.on ≠ i := fun e he hb heq => by
        have h1 := hall e he hb
        have h0 := (mem_ready.1 hr).1
        rw [heq] at h1
        rcases Nat.lt_or_ge i listed.size with h' | h'
        · simp [h'] at h0 h1; rw [h0] at h1; cases h1
        · simp [Array.getElem?_eq_none h'] at h1
      have hz' : (∀ w, S' w) ∨ (j ≠ z ∧ zok ops z i = true ∧ (listed.setIfInBounds j true).getD z false = false) := hz.imp id fun ⟨hzk, hzl⟩ => by
        have hjz : j ≠ z := fun hjz => by
          subst hjz
          simp only [zok, hoj, Array.any_eq_true] at hzk
          obtain ⟨m, hm, hb⟩ := hzk
          simp only [Bool.and_eq_true] at hb
          exact hnot _ (Array.getElem_mem hm) hb.1 (Nat.eq_of_beq_eq_true hb.2)
        exact ⟨hjz, hzk, by rw [getD_set_ne false hjz]; exact hzl⟩
      have h2 := wpOp_putIf hoj (hfree j oj hoj hji hjun hnot) (fun cs b => hsel i oi cs b hi) (fun cs b => hsel j oj cs b hoj) hQ hy h1
      have hfree' : ∀ k ok, ops[k]? = some ok → k ≠ i → (listed.setIfInBounds j true).getD k true = false →
          (∀ e ∈ ok.after, Region.binds .any e = true → e.on ≠ i) → oi.apart ops ok = true := fun k ok hk hki hun hno => by
        refine hfree k ok hk hki ?_ hno
        by_cases hjk : j = k
        · subst hjk; exact hjun
        · rw [getD_set_ne true hjk] at hun; exact hun
      refine wpOp_mono (fun a' w' h3 => ?_) h2
      have hSn : (listed.setIfInBounds j true).getD z false = false → S w' := fun h => h3.2.1 (by rw [Array.setIfInBounds_comm _ _ (Ne.symm hji), getD_set_ne false hiz]; exact h)
      refine ⟨hSn, ih (listed.setIfInBounds j true) a' w' hfree' (ready_mono hr (Ne.symm hji)) (hz'.imp id fun h => h.2) h3.1 ?_ hSn ?_⟩
      · rcases hz' with h | ⟨_, _, h⟩
        · exact h w'
        · exact hSS _ (hSn h)
      · rw [Array.setIfInBounds_comm _ _ hji]
        exact h3.2.2
def Wd (P : Program) (ops : Array Oper) (Q : Post) (S : World → Prop) (z : Nat) (fuel : Nat) (listed : Array Bool) (n : Nat) (env : Env) (w : World) : Prop := ∀ a, St n env a → wpD P ops Q S z fuel listed a w
section
variable {n : Nat} {env : Env} {w : World} {fuel : Nat} {listed : Array Bool} {o : Oper} {v : Value}
/-- Q asks of a panic nothing of the frame's temporaries. -/
def QP (Q : Post) : Prop := ∀ c (a : Act) (d : Option Tmp) (v : Value) w, Q (.panic c) (a.put d v) w → Q (.panic c) a w
theorem qp_body {fn : Func} {R : Ending → World → Prop} : QP (bodyPost P fn R) := fun c a d v w h => by
  cases d <;> exact h
theorem qp_then {Q : Post} {K : Act → World → Prop} (h : QP Q) : QP (Exit.then K Q) := fun c a d v w hh => h c a d v w hh
theorem qp_inb {Q : Post} {id : Nat} (h : QP Q) : QP (Exit.inBlock id Q) := fun c a d v w hh => h c a d v w hh
theorem dr_begin {id : Nat} (S : World → Prop) (z : Nat) (hm : P.follows .mixedOrders = true) (h : ∀ w', Fr [] w w' → Wd P ops Q S z ops.size (Array.replicate ops.size false) n env w') : Wc P (.region id ops true) Q n env w := fun a ha =>
  wp_region_any hm (wpAny_of_D _ _ _ _ (h _ (Fr.drew [] w) a ha))
theorem dr_y (i : Nat) (hi : ops[i]? = some o) (hy : ∀ w, Yld P env o w v) (hg : o.guard = none) (hc : (Region.noSelect ops && Region.free .any ops listed i && (Region.ready .any ops listed).contains i && !Nat.beq i z && dok n o.dst) = true)
    (hQ : QP Q) (hS : listed.getD z false = false → S w) (hn : Wd P ops Q S z fuel (listed.setIfInBounds i true) n (ext env o.dst v) w) : Wd P ops Q S z (fuel + 1) listed n env w := fun a ha => by
  simp only [Bool.and_eq_true, Bool.not_eq_true'] at hc
  obtain ⟨⟨⟨⟨h1, h2⟩, h3⟩, h4⟩, h5⟩ := hc
  exact wpD_first (fun _ => True) (fun _ _ => trivial) hi (fun e => by subst e; rw [Nat.beq_refl] at h4; cases h4) (Region.noSelect_spec h1) (fun c a w => hQ c a _ _ w) fuel listed a w (Region.free_spec hi h2) (by simpa using h3) (.inl fun _ => trivial)
    (.inl ⟨by simp [Region.wanted, hg], fun w _ => hy w a.eval ha.ag⟩) trivial hS (hn _ (ha.put h5 v))
/-- A read: S holds what it asks; z stands behind it and has not come up. -/
theorem dr_l (i : Nat) (hi : ops[i]? = some o) (hy : ∀ w, S w → Yld P env o w v) (hg : o.guard = none) (hc : (Region.noSelect ops && Region.free .any ops listed i && (Region.ready .any ops listed).contains i && !Nat.beq i z && dok n o.dst && zok ops z i && !listed.getD z false) = true)
    (hQ : QP Q) (hS : S w) (hn : Wd P ops Q S z fuel (listed.setIfInBounds i true) n (ext env o.dst v) w) : Wd P ops Q S z (fuel + 1) listed n env w := fun a ha => by
  simp only [Bool.and_eq_true, Bool.not_eq_true'] at hc
  obtain ⟨⟨⟨⟨⟨⟨h1, h2⟩, h3⟩, h4⟩, h5⟩, h6⟩, h7⟩ := hc
  exact wpD_first S (fun _ h => h) hi (fun e => by subst e; rw [Nat.beq_refl] at h4; cases h4) (Region.noSelect_spec h1) (fun c a w => hQ c a _ _ w) fuel listed a w (Region.free_spec hi h2) (by simpa using h3) (.inr ⟨h6, h7⟩)
    (.inl ⟨by simp [Region.wanted, hg], fun w hw => hy w hw a.eval ha.ag⟩) hS (fun _ => hS) (hn _ (ha.put h5 v))
theorem dr_gy (i : Nat) (hi : ops[i]? = some o) (hy : ∀ w, Yld P env o w v) (hg : Gd ops env o true) (hc : (Region.noSelect ops && Region.free .any ops listed i && (Region.ready .any ops listed).contains i && !Nat.beq i z && dok n o.dst) = true)
    (hQ : QP Q) (hS : listed.getD z false = false → S w) (hn : Wd P ops Q S z fuel (listed.setIfInBounds i true) n (ext env o.dst v) w) : Wd P ops Q S z (fuel + 1) listed n env w := fun a ha => by
  simp only [Bool.and_eq_true, Bool.not_eq_true'] at hc
  obtain ⟨⟨⟨⟨h1, h2⟩, h3⟩, h4⟩, h5⟩ := hc
  exact wpD_first (fun _ => True) (fun _ _ => trivial) hi (fun e => by subst e; rw [Nat.beq_refl] at h4; cases h4) (Region.noSelect_spec h1) (fun c a w => hQ c a _ _ w) fuel listed a w (Region.free_spec hi h2) (by simpa using h3) (.inl fun _ => trivial)
    (.inl ⟨hg.wanted ha, fun w _ => hy w a.eval ha.ag⟩) trivial hS (hn _ (ha.put h5 v))
theorem dr_gl (i : Nat) (hi : ops[i]? = some o) (hy : ∀ w, S w → Yld P env o w v) (hg : Gd ops env o true) (hc : (Region.noSelect ops && Region.free .any ops listed i && (Region.ready .any ops listed).contains i && !Nat.beq i z && dok n o.dst && zok ops z i && !listed.getD z false) = true)
    (hQ : QP Q) (hS : S w) (hn : Wd P ops Q S z fuel (listed.setIfInBounds i true) n (ext env o.dst v) w) : Wd P ops Q S z (fuel + 1) listed n env w := fun a ha => by
  simp only [Bool.and_eq_true, Bool.not_eq_true'] at hc
  obtain ⟨⟨⟨⟨⟨⟨h1, h2⟩, h3⟩, h4⟩, h5⟩, h6⟩, h7⟩ := hc
  exact wpD_first S (fun _ h => h) hi (fun e => by subst e; rw [Nat.beq_refl] at h4; cases h4) (Region.noSelect_spec h1) (fun c a w => hQ c a _ _ w) fuel listed a w (Region.free_spec hi h2) (by simpa using h3) (.inr ⟨h6, h7⟩)
    (.inl ⟨hg.wanted ha, fun w hw => hy w hw a.eval ha.ag⟩) hS (fun _ => hS) (hn _ (ha.put h5 v))
theorem dr_skip (i : Nat) (hi : ops[i]? = some o) (hg : Gd ops env o false) (hc : (Region.noSelect ops && Region.free .any ops listed i && (Region.ready .any ops listed).contains i && !Nat.beq i z && dok n o.dst) = true)
    (hQ : QP Q) (hS : listed.getD z false = false → S w) (hn : Wd P ops Q S z fuel (listed.setIfInBounds i true) n (ext env o.dst undef) w) : Wd P ops Q S z (fuel + 1) listed n env w := fun a ha => by
  simp only [Bool.and_eq_true, Bool.not_eq_true'] at hc
  obtain ⟨⟨⟨⟨h1, h2⟩, h3⟩, h4⟩, h5⟩ := hc
  exact wpD_first (fun _ => True) (fun _ _ => trivial) hi (fun e => by subst e; rw [Nat.beq_refl] at h4; cases h4) (Region.noSelect_spec h1) (fun c a w => hQ c a _ _ w) fuel listed a w (Region.free_spec hi h2) (by simpa using h3) (.inl fun _ => trivial)
    (.inr ⟨hg.wanted ha, rfl⟩) trivial hS (hn _ (ha.put h5 undef))
/-- One operation of those that may come up, carried out. -/
def Rd (P : Program) (ops : Array Oper) (Q : Post) (S : World → Prop) (z : Nat) (fuel : Nat) (listed : Array Bool) (n : Nat) (env : Env) (w : World) (i : Nat) : Prop :=
  ∀ a, St n env a → wpOp P ops Q i (fun a' w' => ((listed.setIfInBounds i true).getD z false = false → S w') ∧ wpD P ops Q S z fuel (listed.setIfInBounds i true) a' w') a w
theorem rd_d {i : Nat} {K : Value → World → Prop} (hi : ops[i]? = some o) (h : Doe P env o w K) (hg : o.guard = none) (hd : dok n o.dst = true)
    (hn : ∀ v w', K v w' → ((listed.setIfInBounds i true).getD z false = false → S w') ∧ Wd P ops Q S z fuel (listed.setIfInBounds i true) n (ext env o.dst v) w') : Rd P ops Q S z fuel listed n env w i := fun a ha => by
  unfold wpOp
  simp only [hi]
  rw [if_pos (by simp [Region.wanted, hg])]
  exact .inl (h a _ Q ha.ag fun v w' hk => ⟨(hn v w' hk).1, (hn v w' hk).2 _ (ha.put hd v)⟩)
theorem doe_y (h : Yld P env o w v) : Doe P env o w (fun u w' => u = v ∧ w = w') := Doe.of_run fun ρ ha => ⟨v, w, h ρ ha, rfl, rfl⟩
theorem rd_gd {i : Nat} {K : Value → World → Prop} (hi : ops[i]? = some o) (h : Doe P env o w K) (hg : Gd ops env o true) (hd : dok n o.dst = true)
    (hn : ∀ v w', K v w' → ((listed.setIfInBounds i true).getD z false = false → S w') ∧ Wd P ops Q S z fuel (listed.setIfInBounds i true) n (ext env o.dst v) w') : Rd P ops Q S z fuel listed n env w i := fun a ha => by
  unfold wpOp
  simp only [hi]
  rw [if_pos (hg.wanted ha)]
  exact .inl (h a _ Q ha.ag fun v w' hk => ⟨(hn v w' hk).1, (hn v w' hk).2 _ (ha.put hd v)⟩)
theorem dr_1 {i : Nat} (hr : Region.ready .any ops listed = [i]) (h : Rd P ops Q S z fuel listed n env w i) : Wd P ops Q S z (fuel + 1) listed n env w := fun a ha =>
  ⟨fun h0 => (by rw [h0] at hr; cases hr), fun j hj => (by rw [hr, List.mem_singleton] at hj; subst hj; exact h a ha)⟩
theorem dr_2 {i j : Nat} (hr : Region.ready .any ops listed = [i, j]) (hi : Rd P ops Q S z fuel listed n env w i) (hj : Rd P ops Q S z fuel listed n env w j) : Wd P ops Q S z (fuel + 1) listed n env w := fun a ha =>
  ⟨fun h0 => (by rw [h0] at hr; cases hr), fun k hk => by
    rw [hr] at hk
    simp only [List.mem_cons, List.not_mem_nil, or_false] at hk
    rcases hk with rfl | rfl
    · exact hi a ha
    · exact hj a ha⟩
theorem dr_3 {i j k : Nat} (hr : Region.ready .any ops listed = [i, j, k]) (hi : Rd P ops Q S z fuel listed n env w i) (hj : Rd P ops Q S z fuel listed n env w j) (hk : Rd P ops Q S z fuel listed n env w k) : Wd P ops Q S z (fuel + 1) listed n env w := fun a ha =>
  ⟨fun h0 => (by rw [h0] at hr; cases hr), fun l hl => by
    rw [hr] at hl
    simp only [List.mem_cons, List.not_mem_nil, or_false] at hl
    rcases hl with rfl | rfl | rfl
    · exact hi a ha
    · exact hj a ha
    · exact hk a ha⟩
theorem dr_done (hr : Region.ready .any ops listed = []) (h : Wx Q .normal n env w) : Wd P ops Q S z fuel listed n env w := fun a ha => by
  cases fuel with
  | zero => exact ⟨hr, h a ha⟩
  | succ m => exact ⟨fun _ => h a ha, fun i hi => (by rw [hr] at hi; cases hi)⟩
end
end
end Go.Proofs.GP
