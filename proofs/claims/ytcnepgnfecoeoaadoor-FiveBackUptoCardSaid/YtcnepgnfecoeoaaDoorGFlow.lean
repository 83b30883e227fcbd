/- Step lemmas, fourth part: lists of operations, branches, loops, a function's begin and end; regions that draw their order. No condition. -/
import Derived.Test.YtcnepgnfecoeoaaDoorGMem
set_option linter.unusedVariables false
set_option linter.unusedSimpArgs false
namespace Go.Proofs.GP
open Go Go.RowKit

abbrev Post := Exit → Act → World → Prop
def Wl (P : Program) (ops : Array Oper) (Q : Post) (l : List Oper) (n : Nat) (env : Env) (w : World) : Prop := ∀ a, St n env a → wpList P ops Q l a w
def Wc (P : Program) (c : Code) (Q : Post) (n : Nat) (env : Env) (w : World) : Prop := ∀ a, St n env a → c.wp P Q a w
/-- The way out e is met. -/
def Wx (Q : Post) (e : Exit) (n : Nat) (env : Env) (w : World) : Prop := ∀ a, St n env a → Q e a w

section
variable {P : Program} {ops : Array Oper} {Q : Post} {rest : List Oper} {o : Oper} {n : Nat} {env : Env} {w : World} {v : Value}
theorem ydo {a : Act} {next : Act → World → Prop} (h : Yld P env o w v) (ha : Ag a.eval env) (hn : next (a.put o.dst v) w) : o.wp P a w next Q := by
  unfold Oper.wp
  rw [h a.eval ha]
  exact hn
theorem s_y (h : Yld P env o w v) (hg : o.guard = none) (hd : dok n o.dst = true) (hn : Wl P ops Q rest n (ext env o.dst v) w) : Wl P ops Q (o :: rest) n env w := fun a ha =>
  wpList_plain hg fun K hK => ydo h ha.ag (hK _ _ (hn _ (ha.put hd v)))
theorem s_d {K : Value → World → Prop} (h : Doe P env o w K) (hg : o.guard = none) (hd : dok n o.dst = true) (hn : ∀ v w', K v w' → Wl P ops Q rest n (ext env o.dst v) w') : Wl P ops Q (o :: rest) n env w := fun a ha =>
  wpList_plain hg fun K' hK => h a K' Q ha.ag fun v w' hk => hK _ _ (hn v w' hk _ (ha.put hd v))
/-- What a guard asks, known. -/
def Gd (ops : Array Oper) (env : Env) (o : Oper) (b : Bool) : Prop := ∃ j want d u, o.guard = some (j, want) ∧ (ops[j]?).bind (·.dst) = some d ∧ look env d = some u ∧ (match u with | .bool c => c == want | _ => false) = b
theorem Gd.wanted {b : Bool} {a : Act} (h : Gd ops env o b) (ha : St n env a) : Region.wanted o (yielded ops a.tmps) = b := by
  obtain ⟨j, want, d, u, h1, h2, h3, h4⟩ := h
  have h5 := ha.at_ d u h3
  simp only [Region.wanted, h1, yielded, h2, Option.bind_some]
  by_cases hd : d < a.tmps.size
  · have : a.tmps[d]? = some u := by rw [Array.getElem?_eq_getElem hd]; rw [Array.getD_eq_getD_getElem?, Array.getElem?_eq_getElem hd] at h5; exact congrArg some h5
    rw [this]
    subst h4
    cases u <;> simp [BEq.comm]
  · have : a.tmps[d]? = none := Array.getElem?_eq_none (Nat.le_of_not_lt hd)
    rw [this]
    rw [Array.getD_eq_getD_getElem?, this] at h5
    subst h4
    have hu : u = undef := h5.symm
    subst hu
    rfl
theorem s_gy (h : Yld P env o w v) (hg : Gd ops env o true) (hd : dok n o.dst = true) (hn : Wl P ops Q rest n (ext env o.dst v) w) : Wl P ops Q (o :: rest) n env w := fun a ha =>
  wpList_step fun K hK => by rw [if_pos (hg.wanted ha)]; exact ydo h ha.ag (hK _ _ (hn _ (ha.put hd v)))
theorem s_gd {K : Value → World → Prop} (h : Doe P env o w K) (hg : Gd ops env o true) (hd : dok n o.dst = true) (hn : ∀ v w', K v w' → Wl P ops Q rest n (ext env o.dst v) w') : Wl P ops Q (o :: rest) n env w := fun a ha =>
  wpList_step fun K' hK => by rw [if_pos (hg.wanted ha)]; exact h a K' Q ha.ag fun v w' hk => hK _ _ (hn v w' hk _ (ha.put hd v))
theorem s_skip (hg : Gd ops env o false) (hd : dok n o.dst = true) (hn : Wl P ops Q rest n (ext env o.dst undef) w) : Wl P ops Q (o :: rest) n env w := fun a ha =>
  wpList_step fun K hK => by rw [if_neg (by rw [hg.wanted ha]; simp)]; exact hK _ _ (hn _ (ha.put hd undef))
theorem s_nil (h : Wx Q .normal n env w) : Wl P ops Q [] n env w := fun a ha => h a ha

theorem c_region {id : Nat} {l : List Oper} (h : Wl P l.toArray Q l n env w) : Wc P (.region id l.toArray false) Q n env w := fun a ha => wp_region_lit (h a ha)
theorem c_seq {x y : Code} (h : Wc P x (Exit.then (y.wp P Q) Q) n env w) : Wc P (.seq x y) Q n env w := fun a ha => wp_seq (h a ha)
theorem n_then {y : Code} {Q' : Post} (h : Wc P y Q n env w) : Wx (Exit.then (y.wp P Q) Q') .normal n env w := h
theorem n_inb {id : Nat} (h : Wx Q .normal n env w) : Wx (Exit.inBlock id Q) .normal n env w := h
theorem c_block {id : Nat} {c : Code} (h : Wc P c (Exit.inBlock id Q) n env w) : Wc P (.block id c) Q n env w := fun a ha => wp_block (h a ha)
theorem c_skip (h : Wx Q .normal n env w) : Wc P .skip Q n env w := fun a ha => wp_skip (h a ha)
theorem c_exit {id : Nat} (h : Wx Q (.exit id) n env w) : Wc P (.exit id) Q n env w := fun a ha => wp_exit (h a ha)
theorem x_then {id : Nat} {K : Act → World → Prop} (h : Wx Q (.exit id) n env w) : Wx (Exit.then K Q) (.exit id) n env w := h
theorem x_hit {id : Nat} (h : Wx Q .normal n env w) : Wx (Exit.inBlock id Q) (.exit id) n env w := fun a ha => by simpa [Exit.inBlock] using h a ha
theorem x_miss {id i : Nat} (hi : Nat.beq i id = false) (h : Wx Q (.exit i) n env w) : Wx (Exit.inBlock id Q) (.exit i) n env w := fun a ha => by
  have hne : i ≠ id := fun e => by subst e; rw [Nat.beq_refl] at hi; cases hi
  simpa [Exit.inBlock, hne] using h a ha
theorem c_ret (h : Wx Q .ret n env w) : Wc P .ret Q n env w := fun a ha => wp_ret (h a ha)
theorem c_cond {c : Operand} {x y : Code} {b : Bool} (hc : ev env c = some (.bool b)) (ht : b = true → Wc P x Q n env w) (hf : b = false → Wc P y Q n env w) : Wc P (.cond c x y) Q n env w := fun a ha =>
  wp_cond_split (t := b) (ha.eval hc) (fun e => ht e a ha) (fun e => hf e a ha)
theorem c_true {c : Operand} {x y : Code} (hc : ev env c = some (.bool true)) (ht : Wc P x Q n env w) : Wc P (.cond c x y) Q n env w := fun a ha => wp_cond_true (ha.eval hc) (ht a ha)
theorem c_false {c : Operand} {x y : Code} (hc : ev env c = some (.bool false)) (hf : Wc P y Q n env w) : Wc P (.cond c x y) Q n env w := fun a ha => wp_cond_false (ha.eval hc) (hf a ha)
/-- A cut: what lies behind is shown once, of M alone. -/
theorem c_cut {x y : Code} (M : Act → World → Prop) (hx : Wc P x (Exit.then M Q) n env w) (hy : ∀ a w, M a w → y.wp P Q a w) : Wc P (.seq x y) Q n env w := fun a ha =>
  wp_seq (wp_mono (hx a ha) fun e a' w' q => by
    cases e with
    | normal => exact hy a' w' q
    | _ => exact q)
theorem c_loop {c : Code} (I : Nat → Act → World → Prop) (m : Nat) (h0 : ∀ a, St n env a → I m a w)
    (round : ∀ m a w, I m a w → c.wp P (Exit.then (fun a' w' => ∃ m', m' < m ∧ I m' a' w') Q) a w) : Wc P (.loop c) Q n env w := by
  intro a ha b k cs
  have key : ∀ m a w, I m a w → ∃ e a' w', Q e a' w' ∧ Arrives P (lone (b.at a (.code c :: .inLoop c :: k)) cs w) b k cs e a' w' := by
    intro m
    induction m using Nat.strongRecOn with
    | _ m ih =>
      intro a w hI
      obtain ⟨e, a₁, w₁, hq, harr⟩ := round m a w hI b (.inLoop c :: k) cs
      cases e with
      | normal =>
        obtain ⟨m', hlt, hI₁⟩ := hq
        obtain ⟨e₂, a₂, w₂, hq₂, harr₂⟩ := ih m' hlt a₁ w₁ hI₁
        exact ⟨e₂, a₂, w₂, hq₂, .of_steps (Steps.trans harr (.one step_inLoop)) harr₂⟩
      | exit id => exact ⟨_, a₁, w₁, hq, .pass (x := .inLoop c) rfl (fun _ _ => .inl (by simp)) harr⟩
      | goto l => exact ⟨_, a₁, w₁, hq, .pass (x := .inLoop c) rfl (fun _ _ => .inl (by simp)) harr⟩
      | ret => exact ⟨_, a₁, w₁, hq, .pass (x := .inLoop c) rfl (fun _ _ => .inl (by simp)) harr⟩
      | panic ch => exact ⟨_, a₁, w₁, hq, .pass (x := .inLoop c) rfl (fun _ _ => .inl (by simp)) harr⟩
      | outgrown => exact ⟨_, a₁, w₁, hq, .pass (x := .inLoop c) rfl (fun _ _ => .inl (by simp)) harr⟩
  obtain ⟨e, a', w', hq, harr⟩ := key m a w (h0 a ha)
  exact ⟨e, a', w', hq, .of_steps (.one step_loop) harr⟩
/-- Some of what is known of a frame. -/
def Sub : Env → Env → Prop
  | [], _ => True
  | (k, v) :: r, env => look env k = some v ∧ Sub r env
theorem Sub.spec : ∀ {env' env : Env}, Sub env' env → ∀ t v, look env' t = some v → look env t = some v
  | [], _, _, t, v, h => by cases h
  | (k, u) :: r, env, hs, t, v, h => by
    simp only [look] at h
    split at h
    · rename_i hq
      have := Nat.eq_of_beq_eq_true hq
      subst this
      rw [hs.1]; exact h
    · exact hs.2.spec t v h
theorem St.cut {env' : Env} {a : Act} (h : St n env a) (hs : Sub env' env) : St n env' a := h.sub hs.spec
theorem wx_sub {env' : Env} {e : Exit} (hs : Sub env' env) (h : Wx Q e n env' w) : Wx Q e n env w := fun a ha => h a (ha.cut hs)
theorem wc_sub {env' : Env} {c : Code} (hs : Sub env' env) (h : Wc P c Q n env' w) : Wc P c Q n env w := fun a ha => h a (ha.cut hs)

/-- A function's begin. -/
theorem c_start {f : FuncId} {fn : Func} {c : Code} {args : List Value} {R : Ending → World → Prop} (hf : P.funcs[f]? = some fn) (hb : fn.body = some c) (hn : fn.ntmps = n) (hl : Nat.ble args.length n = true)
    (h : Wc P c (bodyPost P fn R) n (enum 0 args) w) : Calls P f args.toArray w R :=
  calls_of_wp hf hb (by rw [hn]; exact h _ (St.start args n (Nat.le_of_ble_eq_true hl)))
/-- A result's place. -/
def RV (P : Program) (env : Env) (w : World) : ResultVar → Value → Prop
  | .tmp t, v => look env t = some v
  | .cell x t, v => ∃ p, look env x = some (.pointer (some p)) ∧ (loadVar t p).run P w = .ok v w
theorem rv_1 {x : Tmp} {t tb : TypeId} {k g o : Nat} {l : List Value} (ht : TyS P t false k) (hx : look env x = some (.pointer (some ⟨g, o, none⟩))) (hb : Blk w g tb l) (hv : l[o]? = some v) : RV P env w (.cell x t) v :=
  ⟨_, hx, run_loadVar1 ht ((hb.cell o).trans hv)⟩
theorem rv_A {x : Tmp} {t tb : TypeId} {k g o : Nat} {l xs : List Value} (ht : TyS P t true k) (hx : look env x = some (.pointer (some ⟨g, o, none⟩))) (hb : Blk w g tb l) (hk : xs.length = k) (hv : (l.drop o).take k = xs) : RV P env w (.cell x t) (.agg xs.toArray) :=
  ⟨_, hx, run_loadVarA ht hk fun j hj => by rw [hb.cell, ← hv, List.getElem?_take, if_pos hj, List.getElem?_drop]⟩
def rf (tmps : Array Value) : ResultVar → Sem Value
  | .tmp t => pure (tmps.getD t undef)
  | .cell x t => do loadVar t (← asAddr (tmps.getD x undef))
theorem results_rf (fn : Func) (tmps : Array Value) : results fn tmps = (do let vs ← fn.results.mapM (rf tmps); pure (if h : vs.size = 1 then vs[0] else .tuple vs)) := rfl
theorem RV.run {r : ResultVar} {a : Act} (h : RV P env w r v) (ha : St n env a) : (rf a.tmps r).run P w = .ok v w := by
  cases r with
  | tmp t => simp only [rf]; rw [ha.at_ t v h]; rfl
  | cell x t =>
    obtain ⟨p, h1, h2⟩ := h
    simp only [rf]
    rw [ha.at_ x _ h1]
    simp [asAddr, h2]
section
variable {fn : Func} {R : Ending → World → Prop} {e : Exit}
theorem body_ret {a : Act} (he : e = .ret ∨ e = .normal) (hr : (results fn a.tmps).run P w = .ok v w) (hd : a.defers = []) (hR : R (.returned v) w) : bodyPost P fn R e a w := by
  rcases he with rfl | rfl
  · exact bodyPost_ret hr hd hR
  · exact bodyPost_end hr hd hR
theorem fin0 (he : e = .ret ∨ e = .normal) (hr : fn.results = #[]) (hR : R (.returned (.tuple #[])) w) : Wx (bodyPost P fn R) e n env w := fun a ha =>
  body_ret he (by simp [results, hr]) ha.defers hR
theorem fin1 {r1 : ResultVar} {v1 : Value} (he : e = .ret ∨ e = .normal) (hr : fn.results = #[r1]) (h1 : RV P env w r1 v1) (hR : R (.returned v1) w) : Wx (bodyPost P fn R) e n env w := fun a ha =>
  body_ret he (by rw [results_rf, hr]; simp [h1.run ha]) ha.defers hR
theorem fin2 {r1 r2 : ResultVar} {v1 v2 : Value} (he : e = .ret ∨ e = .normal) (hr : fn.results = #[r1, r2]) (h1 : RV P env w r1 v1) (h2 : RV P env w r2 v2) (hR : R (.returned (.tuple #[v1, v2])) w) : Wx (bodyPost P fn R) e n env w := fun a ha =>
  body_ret he (by rw [results_rf, hr]; simp [h1.run ha, h2.run ha]) ha.defers hR
theorem fin3 {r1 r2 r3 : ResultVar} {v1 v2 v3 : Value} (he : e = .ret ∨ e = .normal) (hr : fn.results = #[r1, r2, r3]) (h1 : RV P env w r1 v1) (h2 : RV P env w r2 v2) (h3 : RV P env w r3 v3) (hR : R (.returned (.tuple #[v1, v2, v3])) w) : Wx (bodyPost P fn R) e n env w := fun a ha =>
  body_ret he (by rw [results_rf, hr]; simp [h1.run ha, h2.run ha, h3.run ha]) ha.defers hR
theorem fin4 {r1 r2 r3 r4 : ResultVar} {v1 v2 v3 v4 : Value} (he : e = .ret ∨ e = .normal) (hr : fn.results = #[r1, r2, r3, r4]) (h1 : RV P env w r1 v1) (h2 : RV P env w r2 v2) (h3 : RV P env w r3 v3) (h4 : RV P env w r4 v4) (hR : R (.returned (.tuple #[v1, v2, v3, v4])) w) : Wx (bodyPost P fn R) e n env w := fun a ha =>
  body_ret he (by rw [results_rf, hr]; simp [h1.run ha, h2.run ha, h3.run ha, h4.run ha]) ha.defers hR
theorem fin5 {r1 r2 r3 r4 r5 : ResultVar} {v1 v2 v3 v4 v5 : Value} (he : e = .ret ∨ e = .normal) (hr : fn.results = #[r1, r2, r3, r4, r5]) (h1 : RV P env w r1 v1) (h2 : RV P env w r2 v2) (h3 : RV P env w r3 v3) (h4 : RV P env w r4 v4) (h5 : RV P env w r5 v5) (hR : R (.returned (.tuple #[v1, v2, v3, v4, v5])) w) : Wx (bodyPost P fn R) e n env w := fun a ha =>
  body_ret he (by rw [results_rf, hr]; simp [h1.run ha, h2.run ha, h3.run ha, h4.run ha, h5.run ha]) ha.defers hR
end
end
end Go.Proofs.GP
